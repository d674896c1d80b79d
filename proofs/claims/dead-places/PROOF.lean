import PyProof.Rows.All
import Wide.All
import OpenK.AllK
import Wide.FinOn
import HandS.ForMost
import HandS.Walk
import KE.KDictKeyed
import KE.GoesEnum
import OpenK.KMore
import HandS.Codes
import HandS.IsInst
import HandS.Property
import HandS.Style
import HandS.TupAny
import HandS.More
import HandS.Conv
import HandS.Deep
import HandS.Defaults
import PySem.Challenge.RW_cutruns_k24_whole_dead_places_by_stateme
set_option Elab.async false
set_option linter.all false
set_option maxRecDepth 100000
set_option maxHeartbeats 4000000
/-! The plain law: bodies of statements, how they are laid, what is come to. No heap here. -/
namespace Dp
open PySem L2

inductive PW where
  | touch | write | mark | set | claim | call
  deriving DecidableEq
def PW.str : PW → Str
  | .touch => "touch" | .write => "write" | .mark => "mark" | .set => "set" | .claim => "claim" | .call => "call"
inductive Stm where
  | skip | plain (w : PW) (n : Nat) | hold (k : Nat) (b : List Stm) | either (a b : List Stm) | when (m : Nat) (a b : List Stm) | loop (b : List Stm)
/-- locks, cells, modes, procedures -/
structure Sh where
  L : Nat
  C : Nat
  M : Nat
  P : Nat
def PW.bound (sh : Sh) : PW → Nat
  | .touch => sh.C | .write => sh.C | .mark => 10 | .set => sh.M | .claim => sh.M | .call => sh.P
def okS (sh : Sh) : Nat → Stm → Prop
  | 0, _ => False
  | d + 1, s => match s with
    | .skip => True
    | .plain w n => n < w.bound sh
    | .hold k b => k < sh.L ∧ ∀ s ∈ b, okS sh d s
    | .either a b => (∀ s ∈ a, okS sh d s) ∧ ∀ s ∈ b, okS sh d s
    | .when m a b => m < sh.M ∧ (∀ s ∈ a, okS sh d s) ∧ ∀ s ∈ b, okS sh d s
    | .loop b => ∀ s ∈ b, okS sh d s
abbrev okB (sh : Sh) (d : Nat) (b : List Stm) : Prop := ∀ s ∈ b, okS sh d s
theorem okS_mono {sh : Sh} : ∀ {d d' : Nat} {s : Stm}, d ≤ d' → okS sh d s → okS sh d' s
  | 0, _, _, _, h => h.elim
  | d + 1, 0, _, h, _ => absurd h (Nat.not_succ_le_zero d)
  | d + 1, e + 1, s, hd, h => by
    have hd' : d ≤ e := Nat.le_of_succ_le_succ hd
    cases s with
    | skip => trivial
    | plain w n => exact h
    | hold k b => exact ⟨h.1, fun s hs => okS_mono hd' (h.2 s hs)⟩
    | either a b => exact ⟨fun s hs => okS_mono hd' (h.1 s hs), fun s hs => okS_mono hd' (h.2 s hs)⟩
    | when m a b => exact ⟨h.1, fun s hs => okS_mono hd' (h.2.1 s hs), fun s hs => okS_mono hd' (h.2.2 s hs)⟩
    | loop b => exact fun s hs => okS_mono hd' (h s hs)
/-- how many statements -/
def szL (f : Stm → Nat) : List Stm → Nat
  | [] => 0
  | s :: r => f s + szL f r
def szS : Nat → Stm → Nat
  | 0, _ => 1
  | d + 1, s => match s with
    | .skip => 1
    | .plain _ _ => 1
    | .hold _ b => 1 + szL (szS d) b
    | .either a b => 1 + (szL (szS d) a + szL (szS d) b)
    | .when _ a b => 1 + (szL (szS d) a + szL (szS d) b)
    | .loop b => 1 + szL (szS d) b
abbrev szB (d : Nat) (b : List Stm) : Nat := szL (szS d) b
theorem szL_append (f : Stm → Nat) : ∀ a b : List Stm, szL f (a ++ b) = szL f a + szL f b
  | [], b => by simp [szL]
  | s :: r, b => by show f s + szL f (r ++ b) = f s + szL f r + szL f b; rw [szL_append f r b]; omega
theorem szS_pos : ∀ {d : Nat} {s : Stm}, 1 ≤ szS d s
  | 0, _ => Nat.le_refl 1
  | d + 1, s => by cases s <;> simp [szS] <;> omega
theorem szL_len {d : Nat} : ∀ {b : List Stm}, b.length ≤ szB d b
  | [] => Nat.le_refl 0
  | s :: r => by
    have h1 := szS_pos (d := d) (s := s)
    have h2 := szL_len (d := d) (b := r)
    show r.length + 1 ≤ szS d s + szB d r
    omega

/-! ### laying -/
structure Mv where
  near : Nat
  kind : Str
  what : V
  far : Nat
abbrev vN (n : Nat) : V := .int (n : Int)
structure LS where
  own : List Nat
  mv : List Mv
  pa : Nat × List Nat → Option Nat
  pn : Nat
  lab : List Prop
def LS.next (st : LS) (pr : Nat) (l : Prop) : LS := { st with own := st.own ++ [pr], lab := st.lab ++ [l] }
def LS.move (st : LS) (m : Mv) : LS := { st with mv := st.mv ++ [m] }
def LS.path (st : LS) (k : Nat × List Nat) (v : Nat) : LS := { st with pa := fun k' => if k' = k then some v else st.pa k', pn := st.pn + 1 }
def canS (E : List Nat) : Nat → Stm → Bool
  | 0, _ => true
  | d + 1, s => match s with
    | .skip => true
    | .plain w n => if w = .call then decide (n ∈ E) else true
    | .hold _ b => b.all (canS E d)
    | .either a b => a.all (canS E d) || b.all (canS E d)
    | .when _ a b => a.all (canS E d) || b.all (canS E d)
    | .loop _ => true
abbrev canB (E : List Nat) (d : Nat) (b : List Stm) : Bool := b.all (canS E d)
/-- a body, statement by statement: f lays one -/
def layList (f : Prop → Stm → List Nat → Nat → Nat → LS → LS) (can : Stm → Bool) (pr far : Nat) (path : List Nat) : Prop → List Stm → Nat → Nat → LS → LS
  | _, [], _, _, st => st
  | r, [s], i, near, st => f r s (path ++ [i]) near far (st.path (pr, path ++ [i]) near)
  | r, s :: t :: l, i, near, st =>
    layList f can pr far path (r ∧ can s = true) (t :: l) (i + 1) st.own.length
      (f r s (path ++ [i]) near st.own.length ((st.next pr (r ∧ can s = true)).path (pr, path ++ [i]) near))
def layBody (f : Prop → Stm → List Nat → Nat → Nat → LS → LS) (can : Stm → Bool) (pr : Nat) (path : List Nat) (near far : Nat) (r : Prop) (b : List Stm) (st : LS) : LS :=
  layList f can pr far path r b 0 near (if b = [] then st.move ⟨near, "step", .non, far⟩ else st)
def layS (E : List Nat) (pr : Nat) : Nat → Prop → Stm → List Nat → Nat → Nat → LS → LS
  | 0, _, _, _, _, _, st => st
  | d + 1, r, s, p, a, b, st => match s with
    | .skip => st.move ⟨a, "step", .non, b⟩
    | .plain w n => st.move ⟨a, w.str, vN n, b⟩
    | .hold k body =>
      (layBody (layS E pr d) (canS E d) pr (p ++ [0]) st.own.length (st.own.length + 1) r body
        (((st.next pr r).move ⟨a, "take", vN k, st.own.length⟩).next pr (r ∧ canB E d body = true))).move ⟨st.own.length + 1, "give", vN k, b⟩
    | .either x y =>
      let st1 := layBody (layS E pr d) (canS E d) pr (p ++ [0]) st.own.length b r x ((st.next pr r).move ⟨a, "step", .non, st.own.length⟩)
      layBody (layS E pr d) (canS E d) pr (p ++ [1]) st1.own.length b r y ((st1.next pr r).move ⟨a, "step", .non, st1.own.length⟩)
    | .when m x y =>
      let st1 := layBody (layS E pr d) (canS E d) pr (p ++ [0]) st.own.length b r x ((st.next pr r).move ⟨a, "is", vN m, st.own.length⟩)
      layBody (layS E pr d) (canS E d) pr (p ++ [1]) st1.own.length b r y ((st1.next pr r).move ⟨a, "not", vN m, st1.own.length⟩)
    | .loop body =>
      (layBody (layS E pr d) (canS E d) pr (p ++ [0]) st.own.length st.own.length r body ((st.next pr r).move ⟨a, "step", .non, st.own.length⟩)).move ⟨st.own.length, "step", .non, b⟩
abbrev layB (E : List Nat) (pr d : Nat) (path : List Nat) (near far : Nat) (r : Prop) (b : List Stm) (st : LS) : LS := layBody (layS E pr d) (canS E d) pr path near far r b st

/-! ### what grows while one lays -/
structure Grow (s t : LS) : Prop where
  own : s.own <+: t.own
  mv : s.mv <+: t.mv
  lab : s.lab <+: t.lab
  len : s.lab.length = s.own.length → t.lab.length = t.own.length
theorem Grow.refl (s : LS) : Grow s s := ⟨List.prefix_refl _, List.prefix_refl _, List.prefix_refl _, id⟩
theorem Grow.trans {a b c : LS} (x : Grow a b) (y : Grow b c) : Grow a c := ⟨x.own.trans y.own, x.mv.trans y.mv, x.lab.trans y.lab, fun h => y.len (x.len h)⟩
theorem Grow.next (s : LS) (pr : Nat) (l : Prop) : Grow s (s.next pr l) := ⟨List.prefix_append _ _, List.prefix_refl _, List.prefix_append _ _, fun h => by simp [LS.next, h]⟩
theorem Grow.move (s : LS) (m : Mv) : Grow s (s.move m) := ⟨List.prefix_refl _, List.prefix_append _ _, List.prefix_refl _, id⟩
theorem Grow.path (s : LS) (k : Nat × List Nat) (v : Nat) : Grow s (s.path k v) := ⟨List.prefix_refl _, List.prefix_refl _, List.prefix_refl _, id⟩
theorem layList_grow {f : Prop → Stm → List Nat → Nat → Nat → LS → LS} {can : Stm → Bool} {pr far : Nat} {path : List Nat} (hf : ∀ r s p a b st, Grow st (f r s p a b st)) :
    ∀ (l : List Stm) (r : Prop) (i near : Nat) (st : LS), Grow st (layList f can pr far path r l i near st)
  | [], _, _, _, st => Grow.refl st
  | [s], r, i, near, st => (Grow.path st _ _).trans (hf _ _ _ _ _ _)
  | s :: t :: l, r, i, near, st => ((Grow.next st _ _).trans (Grow.path _ _ _)).trans ((hf _ _ _ _ _ _).trans (layList_grow hf (t :: l) _ _ _ _))
theorem layBody_grow {f : Prop → Stm → List Nat → Nat → Nat → LS → LS} {can : Stm → Bool} {pr : Nat} {path : List Nat} {near far : Nat} {r : Prop} (hf : ∀ r s p a b st, Grow st (f r s p a b st)) (b : List Stm) (st : LS) :
    Grow st (layBody f can pr path near far r b st) := by
  unfold layBody
  refine Grow.trans ?_ (layList_grow hf b r 0 near _)
  split
  · exact Grow.move _ _
  · exact Grow.refl _
theorem layS_grow {E : List Nat} {pr : Nat} : ∀ (d : Nat) (r : Prop) (s : Stm) (p : List Nat) (a b : Nat) (st : LS), Grow st (layS E pr d r s p a b st)
  | 0, _, _, _, _, _, st => Grow.refl st
  | d + 1, r, s, p, a, b, st => by
    have hf := layS_grow (E := E) (pr := pr) d
    cases s with
    | skip => exact Grow.move _ _
    | plain w n => exact Grow.move _ _
    | hold k body => exact ((Grow.next _ _ _).trans ((Grow.move _ _).trans (Grow.next _ _ _))).trans ((layBody_grow hf _ _).trans (Grow.move _ _))
    | either x y => exact ((Grow.next _ _ _).trans (Grow.move _ _)).trans ((layBody_grow hf _ _).trans (((Grow.next _ _ _).trans (Grow.move _ _)).trans (layBody_grow hf _ _)))
    | when m x y => exact ((Grow.next _ _ _).trans (Grow.move _ _)).trans ((layBody_grow hf _ _).trans (((Grow.next _ _ _).trans (Grow.move _ _)).trans (layBody_grow hf _ _)))
    | loop body => exact ((Grow.next _ _ _).trans (Grow.move _ _)).trans ((layBody_grow hf _ _).trans (Grow.move _ _))
theorem layB_grow {E : List Nat} {pr d : Nat} {path : List Nat} {near far : Nat} {r : Prop} {b : List Stm} {st : LS} : Grow st (layB E pr d path near far r b st) := layBody_grow (layS_grow d) b st

/-! ### how much it grows -/
def LS.wt (st : LS) : Nat := st.own.length + st.mv.length + st.pn
theorem wt_next (s : LS) (pr : Nat) (l : Prop) : (s.next pr l).wt = s.wt + 1 := by simp [LS.wt, LS.next]; omega
theorem wt_move (s : LS) (m : Mv) : (s.move m).wt = s.wt + 1 := by simp [LS.wt, LS.move]; omega
theorem wt_path (s : LS) (k : Nat × List Nat) (v : Nat) : (s.path k v).wt = s.wt + 1 := by simp [LS.wt, LS.path]; omega
theorem layList_wt {f : Prop → Stm → List Nat → Nat → Nat → LS → LS} {g : Stm → Nat} {can : Stm → Bool} {pr far : Nat} {path : List Nat} (hf : ∀ r s p a b st, (f r s p a b st).wt + 2 ≤ st.wt + 9 * g s ) :
    ∀ (l : List Stm) (r : Prop) (i near : Nat) (st : LS), (layList f can pr far path r l i near st).wt ≤ st.wt + 9 * szL g l
  | [], _, _, _, st => Nat.le_refl _
  | [s], r, i, near, st => by
    have h := hf r s (path ++ [i]) near far (st.path (pr, path ++ [i]) near)
    rw [wt_path] at h
    show (f r s (path ++ [i]) near far (st.path (pr, path ++ [i]) near)).wt ≤ st.wt + 9 * (g s + 0)
    omega
  | s :: t :: l, r, i, near, st => by
    have h := hf r s (path ++ [i]) near st.own.length ((st.next pr (r ∧ can s = true)).path (pr, path ++ [i]) near)
    have h2 := layList_wt (can := can) (pr := pr) (far := far) (path := path) hf (t :: l) (r ∧ can s = true) (i + 1) st.own.length (f r s (path ++ [i]) near st.own.length ((st.next pr (r ∧ can s = true)).path (pr, path ++ [i]) near))
    rw [wt_path, wt_next] at h
    show (layList f can pr far path (r ∧ can s = true) (t :: l) (i + 1) st.own.length (f r s (path ++ [i]) near st.own.length ((st.next pr (r ∧ can s = true)).path (pr, path ++ [i]) near))).wt ≤ st.wt + 9 * (g s + szL g (t :: l))
    omega
theorem layBody_wt {f : Prop → Stm → List Nat → Nat → Nat → LS → LS} {g : Stm → Nat} {can : Stm → Bool} {pr near far : Nat} {path : List Nat} {r : Prop} (hf : ∀ r s p a b st, (f r s p a b st).wt + 2 ≤ st.wt + 9 * g s) (b : List Stm) (st : LS) :
    (layBody f can pr path near far r b st).wt ≤ st.wt + 1 + 9 * szL g b := by
  unfold layBody
  by_cases e : b = []
  · subst e
    rw [if_pos rfl]
    show (st.move _).wt ≤ _
    rw [wt_move]
    omega
  · rw [if_neg e]
    have h := layList_wt (can := can) (pr := pr) (far := far) (path := path) hf b r 0 near st
    omega
theorem layS_wt {E : List Nat} {pr : Nat} : ∀ (d : Nat) (r : Prop) (s : Stm) (p : List Nat) (a b : Nat) (st : LS), (layS E pr d r s p a b st).wt + 2 ≤ st.wt + 9 * szS d s
  | 0, _, _, _, _, _, st => by show st.wt + 2 ≤ st.wt + 9 * 1; omega
  | d + 1, r, s, p, a, b, st => by
    have hf := layS_wt (E := E) (pr := pr) d
    cases s with
    | skip =>
      show (st.move _).wt + 2 ≤ st.wt + 9 * 1
      rw [wt_move]
      omega
    | plain w n =>
      show (st.move _).wt + 2 ≤ st.wt + 9 * 1
      rw [wt_move]
      omega
    | hold k body =>
      have h := layBody_wt (can := canS E d) (pr := pr) (near := st.own.length) (far := st.own.length + 1) (path := p ++ [0]) (r := r) hf body (((st.next pr r).move ⟨a, "take", vN k, st.own.length⟩).next pr (r ∧ canB E d body = true))
      rw [wt_next, wt_move, wt_next] at h
      show (LS.move _ _).wt + 2 ≤ st.wt + 9 * (1 + szL (szS d) body)
      rw [wt_move]
      omega
    | either x y =>
      have h := layBody_wt (can := canS E d) (pr := pr) (near := st.own.length) (far := b) (path := p ++ [0]) (r := r) hf x ((st.next pr r).move ⟨a, "step", .non, st.own.length⟩)
      rw [wt_move, wt_next] at h
      have h2 := fun st1 : LS => layBody_wt (can := canS E d) (pr := pr) (near := st1.own.length) (far := b) (path := p ++ [1]) (r := r) hf y ((st1.next pr r).move ⟨a, "step", .non, st1.own.length⟩)
      simp only [wt_move, wt_next] at h2
      show (layBody _ _ _ _ _ _ _ _ _).wt + 2 ≤ st.wt + 9 * (1 + (szL (szS d) x + szL (szS d) y))
      have h3 := h2 (layBody (layS E pr d) (canS E d) pr (p ++ [0]) st.own.length b r x ((st.next pr r).move ⟨a, "step", .non, st.own.length⟩))
      omega
    | when m x y =>
      have h := layBody_wt (can := canS E d) (pr := pr) (near := st.own.length) (far := b) (path := p ++ [0]) (r := r) hf x ((st.next pr r).move ⟨a, "is", vN m, st.own.length⟩)
      rw [wt_move, wt_next] at h
      have h2 := fun st1 : LS => layBody_wt (can := canS E d) (pr := pr) (near := st1.own.length) (far := b) (path := p ++ [1]) (r := r) hf y ((st1.next pr r).move ⟨a, "not", vN m, st1.own.length⟩)
      simp only [wt_move, wt_next] at h2
      show (layBody _ _ _ _ _ _ _ _ _).wt + 2 ≤ st.wt + 9 * (1 + (szL (szS d) x + szL (szS d) y))
      have h3 := h2 (layBody (layS E pr d) (canS E d) pr (p ++ [0]) st.own.length b r x ((st.next pr r).move ⟨a, "is", vN m, st.own.length⟩))
      omega
    | loop body =>
      have h := layBody_wt (can := canS E d) (pr := pr) (near := st.own.length) (far := st.own.length) (path := p ++ [0]) (r := r) hf body ((st.next pr r).move ⟨a, "step", .non, st.own.length⟩)
      rw [wt_move, wt_next] at h
      show (LS.move _ _).wt + 2 ≤ st.wt + 9 * (1 + szL (szS d) body)
      rw [wt_move]
      omega

/-! ### which keys are laid -/
def Under (pr : Nat) (p : List Nat) (i : Nat) (k : Nat × List Nat) : Prop := ∃ j, i ≤ j ∧ k.1 = pr ∧ (p ++ [j]) <+: k.2
theorem prefix_step {p q : List Nat} {i j : Nat} (h : (p ++ [i]) <+: (p ++ [j])) : i = j := by
  have e := List.IsPrefix.eq_of_length h (by simp)
  simpa using e
theorem prefix_two {p q : List Nat} {i j : Nat} (h1 : (p ++ [i]) <+: q) (h2 : (p ++ [j]) <+: q) : i = j := by
  obtain ⟨t, rfl⟩ := h1
  obtain ⟨u, e⟩ := h2
  rw [List.append_assoc, List.append_assoc] at e
  have e' := List.append_cancel_left e
  simp at e'
  exact e'.1.symm
theorem layList_pa {f : Prop → Stm → List Nat → Nat → Nat → LS → LS} {can : Stm → Bool} {pr far : Nat} {path : List Nat}
    (hf : ∀ r s p a b st k, ¬ Under pr p 0 k → (f r s p a b st).pa k = st.pa k) :
    ∀ (l : List Stm) (r : Prop) (i near : Nat) (st : LS) (k : Nat × List Nat), ¬ (∃ j, i ≤ j ∧ k.1 = pr ∧ (path ++ [j]) <+: k.2) → (layList f can pr far path r l i near st).pa k = st.pa k := by
  have sub : ∀ {i : Nat} {k : Nat × List Nat}, ¬ (∃ j, i ≤ j ∧ k.1 = pr ∧ (path ++ [j]) <+: k.2) → ¬ Under pr (path ++ [i]) 0 k ∧ k ≠ (pr, path ++ [i]) := fun {i k} h =>
    ⟨fun ⟨j, _, e, q⟩ => h ⟨i, Nat.le_refl i, e, (List.prefix_append (path ++ [i]) [j]).trans q⟩, fun e => h ⟨i, Nat.le_refl i, by rw [e], by rw [e]; exact List.prefix_refl _⟩⟩
  have put : ∀ (st : LS) (q : Nat × List Nat) (v : Nat) (k : Nat × List Nat), k ≠ q → (st.path q v).pa k = st.pa k := fun st q v k h => if_neg h
  intro l
  induction l with
  | nil => intro r i near st k _; rfl
  | cons s l ih =>
    intro r i near st k h
    obtain ⟨h1, h2⟩ := sub h
    cases l with
    | nil =>
      show (f r s (path ++ [i]) near far (st.path (pr, path ++ [i]) near)).pa k = st.pa k
      rw [hf _ _ _ _ _ _ k h1, put _ _ _ _ h2]
    | cons t l =>
      show (layList f can pr far path (r ∧ can s = true) (t :: l) (i + 1) st.own.length _).pa k = st.pa k
      rw [ih _ _ _ _ _ fun ⟨j, a, b, c⟩ => h ⟨j, Nat.le_of_succ_le a, b, c⟩, hf _ _ _ _ _ _ k h1, put _ _ _ _ h2]
      rfl
theorem layBody_pa {f : Prop → Stm → List Nat → Nat → Nat → LS → LS} {can : Stm → Bool} {pr near far : Nat} {path : List Nat} {r : Prop} (hf : ∀ r s p a b st k, ¬ Under pr p 0 k → (f r s p a b st).pa k = st.pa k) (b : List Stm) (st : LS)
    (k : Nat × List Nat) (h : ¬ Under pr path 0 k) : (layBody f can pr path near far r b st).pa k = st.pa k := by
  unfold layBody
  rw [layList_pa hf b r 0 near _ k h]
  split <;> rfl
theorem Under.deep {pr : Nat} {p : List Nat} {j : Nat} {k : Nat × List Nat} (h : Under pr (p ++ [j]) 0 k) : Under pr p 0 k := let ⟨i, _, e, q⟩ := h; ⟨j, Nat.zero_le _, e, (List.prefix_append _ _).trans q⟩
theorem layS_pa {E : List Nat} {pr : Nat} : ∀ (d : Nat) (r : Prop) (s : Stm) (p : List Nat) (a b : Nat) (st : LS) (k : Nat × List Nat), ¬ Under pr p 0 k → (layS E pr d r s p a b st).pa k = st.pa k
  | 0, _, _, _, _, _, st, _, _ => rfl
  | d + 1, r, s, p, a, b, st, k, h => by
    have hf := layS_pa (E := E) (pr := pr) d
    have h' : ∀ j, ¬ Under pr (p ++ [j]) 0 k := fun j x => h x.deep
    cases s with
    | skip => rfl
    | plain w n => rfl
    | hold c body =>
      show (layBody _ _ _ _ _ _ _ _ _).pa k = _
      rw [layBody_pa hf _ _ k (h' 0)]
      rfl
    | either x y =>
      show (layBody _ _ _ _ _ _ _ _ _).pa k = _
      rw [layBody_pa hf _ _ k (h' 1)]
      show (layBody _ _ _ _ _ _ _ _ _).pa k = _
      rw [layBody_pa hf _ _ k (h' 0)]
      rfl
    | when m x y =>
      show (layBody _ _ _ _ _ _ _ _ _).pa k = _
      rw [layBody_pa hf _ _ k (h' 1)]
      show (layBody _ _ _ _ _ _ _ _ _).pa k = _
      rw [layBody_pa hf _ _ k (h' 0)]
      rfl
    | loop body =>
      show (layBody _ _ _ _ _ _ _ _ _).pa k = _
      rw [layBody_pa hf _ _ k (h' 0)]
      rfl
end Dp
namespace Dp
open PySem L2
/-! ### what is laid stands in the flow -/
section
variable (mvF : List Mv) (paF : List Nat → Option Nat)
def LaidList (g : Stm → List Nat → Nat → Nat → Prop) (path : List Nat) (far : Nat) : List Stm → Nat → Nat → Prop
  | [], _, _ => True
  | [s], i, near => paF (path ++ [i]) = some near ∧ g s (path ++ [i]) near far
  | s :: t :: l, i, near => paF (path ++ [i]) = some near ∧ ∃ to, g s (path ++ [i]) near to ∧ LaidList g path far (t :: l) (i + 1) to
def LaidBody (g : Stm → List Nat → Nat → Nat → Prop) (path : List Nat) (near far : Nat) (b : List Stm) : Prop :=
  (b = [] → (⟨near, "step", .non, far⟩ : Mv) ∈ mvF) ∧ LaidList paF g path far b 0 near
def LaidS : Nat → Stm → List Nat → Nat → Nat → Prop
  | 0, _, _, _, _ => False
  | d + 1, s, p, a, b => match s with
    | .skip => (⟨a, "step", .non, b⟩ : Mv) ∈ mvF
    | .plain w n => (⟨a, w.str, vN n, b⟩ : Mv) ∈ mvF
    | .hold k body => ∃ n m, (⟨a, "take", vN k, n⟩ : Mv) ∈ mvF ∧ LaidBody mvF paF (LaidS d) (p ++ [0]) n m body ∧ (⟨m, "give", vN k, b⟩ : Mv) ∈ mvF
    | .either x y => ∃ n m, (⟨a, "step", .non, n⟩ : Mv) ∈ mvF ∧ LaidBody mvF paF (LaidS d) (p ++ [0]) n b x ∧ (⟨a, "step", .non, m⟩ : Mv) ∈ mvF ∧ LaidBody mvF paF (LaidS d) (p ++ [1]) m b y
    | .when c x y => ∃ n m, (⟨a, "is", vN c, n⟩ : Mv) ∈ mvF ∧ LaidBody mvF paF (LaidS d) (p ++ [0]) n b x ∧ (⟨a, "not", vN c, m⟩ : Mv) ∈ mvF ∧ LaidBody mvF paF (LaidS d) (p ++ [1]) m b y
    | .loop body => ∃ n, (⟨a, "step", .non, n⟩ : Mv) ∈ mvF ∧ LaidBody mvF paF (LaidS d) (p ++ [0]) n n body ∧ (⟨n, "step", .non, b⟩ : Mv) ∈ mvF
end
section
variable {mvF : List Mv} {paF : List Nat → Option Nat} {sh : Sh} {pr : Nat}
theorem laidList_of {f : Prop → Stm → List Nat → Nat → Nat → LS → LS} {g : Stm → List Nat → Nat → Nat → Prop} {can : Stm → Bool} {far : Nat} {path : List Nat} {ok : Stm → Prop}
    (hg : ∀ r s p a b st, Grow st (f r s p a b st)) (hf : ∀ r s p a b st k, ¬ Under pr p 0 k → (f r s p a b st).pa k = st.pa k)
    (hL : ∀ r s p a b st, ok s → (∀ m ∈ (f r s p a b st).mv, m ∈ mvF) → (∀ q, Under pr p 0 (pr, q) → paF q = (f r s p a b st).pa (pr, q)) → g s p a b) :
    ∀ (l : List Stm) (r : Prop) (i near : Nat) (st : LS), (∀ s ∈ l, ok s) → (∀ m ∈ (layList f can pr far path r l i near st).mv, m ∈ mvF) →
      (∀ q, Under pr path i (pr, q) → paF q = (layList f can pr far path r l i near st).pa (pr, q)) → LaidList paF g path far l i near := by
  have at_i : ∀ i, Under pr path i (pr, path ++ [i]) := fun i => ⟨i, Nat.le_refl i, rfl, List.prefix_refl _⟩
  have deep : ∀ {i : Nat} {q : List Nat}, Under pr (path ++ [i]) 0 (pr, q) → Under pr path i (pr, q) := fun {i q} ⟨j, _, e, z⟩ => ⟨i, Nat.le_refl i, e, (List.prefix_append _ _).trans z⟩
  have notOwn : ∀ i, ¬ Under pr (path ++ [i]) 0 (pr, path ++ [i]) := fun i ⟨j, _, _, z⟩ => by
    have z' : (path ++ [i] ++ [j]).length ≤ (path ++ [i]).length := List.IsPrefix.length_le z
    simp at z'
  have put : ∀ (st : LS) (q : Nat × List Nat) (v : Nat), (st.path q v).pa q = some v := fun st q v => if_pos rfl
  intro l
  induction l with
  | nil => intro r i near st _ _ _; trivial
  | cons s l ih =>
    intro r i near st hok hm hp
    cases l with
    | nil =>
      have e1 : paF (path ++ [i]) = some near := by
        rw [hp _ (at_i i)]
        show (f r s (path ++ [i]) near far (st.path (pr, path ++ [i]) near)).pa (pr, path ++ [i]) = _
        rw [hf _ _ _ _ _ _ _ (notOwn i), put]
      exact ⟨e1, hL r s (path ++ [i]) near far _ (hok s List.mem_cons_self) hm fun q hq => hp q (deep hq)⟩
    | cons t l =>
      have hm' : ∀ m ∈ (layList f can pr far path (r ∧ can s = true) (t :: l) (i + 1) st.own.length (f r s (path ++ [i]) near st.own.length ((st.next pr (r ∧ can s = true)).path (pr, path ++ [i]) near))).mv, m ∈ mvF := hm
      have hp' : ∀ q, Under pr path i (pr, q) → paF q = (layList f can pr far path (r ∧ can s = true) (t :: l) (i + 1) st.own.length (f r s (path ++ [i]) near st.own.length ((st.next pr (r ∧ can s = true)).path (pr, path ++ [i]) near))).pa (pr, q) := hp
      have rest : ∀ q, (path ++ [i]) <+: q → ∀ st1 : LS, (layList f can pr far path (r ∧ can s = true) (t :: l) (i + 1) st.own.length st1).pa (pr, q) = st1.pa (pr, q) := fun q hq st1 =>
        layList_pa hf _ _ _ _ _ _ fun ⟨j, a, _, c⟩ => by
          have z := prefix_two hq c
          omega
      have e1 : paF (path ++ [i]) = some near := by
        rw [hp' _ (at_i i), rest _ (List.prefix_refl _), hf _ _ _ _ _ _ _ (notOwn i), put]
      refine ⟨e1, st.own.length, hL r s (path ++ [i]) near _ _ (hok s List.mem_cons_self) (fun m h => hm' m ((layList_grow hg _ _ _ _ _).mv.subset h)) (fun q hq => ?_), ih _ _ _ _ (fun s hs => hok s (List.mem_cons_of_mem _ hs)) hm' fun q ⟨j, a, b, c⟩ => hp' q ⟨j, Nat.le_of_succ_le a, b, c⟩⟩
      obtain ⟨j, _, _, c⟩ := id hq
      rw [hp' q (deep hq), rest q ((List.prefix_append _ _).trans c)]
theorem laidBody_of {f : Prop → Stm → List Nat → Nat → Nat → LS → LS} {g : Stm → List Nat → Nat → Nat → Prop} {can : Stm → Bool} {near far : Nat} {path : List Nat} {ok : Stm → Prop} {r : Prop}
    (hg : ∀ r s p a b st, Grow st (f r s p a b st)) (hf : ∀ r s p a b st k, ¬ Under pr p 0 k → (f r s p a b st).pa k = st.pa k)
    (hL : ∀ r s p a b st, ok s → (∀ m ∈ (f r s p a b st).mv, m ∈ mvF) → (∀ q, Under pr p 0 (pr, q) → paF q = (f r s p a b st).pa (pr, q)) → g s p a b)
    (b : List Stm) (st : LS) (hok : ∀ s ∈ b, ok s) (hm : ∀ m ∈ (layBody f can pr path near far r b st).mv, m ∈ mvF)
    (hp : ∀ q, Under pr path 0 (pr, q) → paF q = (layBody f can pr path near far r b st).pa (pr, q)) : LaidBody mvF paF g path near far b := by
  unfold layBody at hm hp
  refine ⟨fun e => ?_, laidList_of hg hf hL b r 0 near _ hok hm hp⟩
  subst e
  exact hm _ (by show _ ∈ (LS.move st _).mv; exact List.mem_append_right _ List.mem_cons_self)
theorem laidS_of {E : List Nat} : ∀ (d : Nat) (r : Prop) (s : Stm) (p : List Nat) (a b : Nat) (st : LS), okS sh d s → (∀ m ∈ (layS E pr d r s p a b st).mv, m ∈ mvF) →
      (∀ q, Under pr p 0 (pr, q) → paF q = (layS E pr d r s p a b st).pa (pr, q)) → LaidS mvF paF d s p a b
  | 0, _, _, _, _, _, _, h, _, _ => h.elim
  | d + 1, r, s, p, a, b, st, h, hm, hp => by
    have hg := layS_grow (E := E) (pr := pr) d
    have hf := layS_pa (E := E) (pr := pr) d
    have hL := laidS_of (E := E) d
    have lst : ∀ (l : List Mv) (m : Mv), m ∈ l ++ [m] := fun l m => List.mem_append_right _ List.mem_cons_self
    have sub : ∀ {st1 st2 : LS} {m : Mv}, Grow st1 st2 → m ∈ st1.mv → m ∈ st2.mv := fun g h => g.mv.subset h
    have und : ∀ {q : List Nat} {j : Nat}, Under pr (p ++ [j]) 0 (pr, q) → Under pr p 0 (pr, q) := fun h => h.deep
    have apart : ∀ {q : List Nat} {i j : Nat}, i ≠ j → Under pr (p ++ [i]) 0 (pr, q) → ¬ Under pr (p ++ [j]) 0 (pr, q) := fun {q i j} hij ⟨u, _, _, x⟩ ⟨v, _, _, y⟩ =>
      hij (prefix_two ((List.prefix_append _ _).trans x) ((List.prefix_append _ _).trans y))
    cases s with
    | skip => exact hm _ (lst _ _)
    | plain w n => exact hm _ (lst _ _)
    | hold k body =>
      refine ⟨st.own.length, st.own.length + 1, hm _ (sub ((Grow.next _ pr (r ∧ canB E d body = true)).trans ((layBody_grow hg _ _).trans (Grow.move _ _))) (lst _ _)), laidBody_of hg hf hL body _ h.2 (fun m hq => hm m (List.mem_append_left _ hq)) (fun q hq => hp q (und hq)), hm _ (lst _ _)⟩
    | either x y =>
      have hm' : ∀ m ∈ (layBody (layS E pr d) (canS E d) pr (p ++ [1]) (layBody (layS E pr d) (canS E d) pr (p ++ [0]) st.own.length b r x ((st.next pr r).move ⟨a, "step", .non, st.own.length⟩)).own.length b r y (((layBody (layS E pr d) (canS E d) pr (p ++ [0]) st.own.length b r x ((st.next pr r).move ⟨a, "step", .non, st.own.length⟩)).next pr r).move ⟨a, "step", .non, (layBody (layS E pr d) (canS E d) pr (p ++ [0]) st.own.length b r x ((st.next pr r).move ⟨a, "step", .non, st.own.length⟩)).own.length⟩)).mv, m ∈ mvF := hm
      have hp' : ∀ q, Under pr p 0 (pr, q) → paF q = (layBody (layS E pr d) (canS E d) pr (p ++ [1]) (layBody (layS E pr d) (canS E d) pr (p ++ [0]) st.own.length b r x ((st.next pr r).move ⟨a, "step", .non, st.own.length⟩)).own.length b r y (((layBody (layS E pr d) (canS E d) pr (p ++ [0]) st.own.length b r x ((st.next pr r).move ⟨a, "step", .non, st.own.length⟩)).next pr r).move ⟨a, "step", .non, (layBody (layS E pr d) (canS E d) pr (p ++ [0]) st.own.length b r x ((st.next pr r).move ⟨a, "step", .non, st.own.length⟩)).own.length⟩)).pa (pr, q) := hp
      generalize e1 : layBody (layS E pr d) (canS E d) pr (p ++ [0]) st.own.length b r x ((st.next pr r).move ⟨a, "step", .non, st.own.length⟩) = st1 at hm' hp'
      have g1 : Grow st1 (layBody (layS E pr d) (canS E d) pr (p ++ [1]) st1.own.length b r y ((st1.next pr r).move ⟨a, "step", .non, st1.own.length⟩)) := ((Grow.next _ _ _).trans (Grow.move _ _)).trans (layBody_grow hg _ _)
      have m0 : (⟨a, "step", .non, st.own.length⟩ : Mv) ∈ st1.mv := by
        rw [← e1]
        exact sub (layBody_grow hg _ _) (lst _ _)
      refine ⟨st.own.length, st1.own.length, hm' _ (sub g1 m0), laidBody_of (r := r) (can := canS E d) hg hf hL x ((st.next pr r).move ⟨a, "step", .non, st.own.length⟩) h.1 (fun m hq => hm' m (sub g1 (by rw [← e1]; exact hq))) (fun q hq => ?_), hm' _ (sub (layBody_grow hg _ _) (lst _ _)),
        laidBody_of (r := r) (can := canS E d) hg hf hL y _ h.2 hm' fun q hq => hp' q (und hq)⟩
      rw [hp' q (und hq), layBody_pa hf _ _ _ (apart (by decide) hq), e1]
      rfl
    | when c x y =>
      have hm' : ∀ m ∈ (layBody (layS E pr d) (canS E d) pr (p ++ [1]) (layBody (layS E pr d) (canS E d) pr (p ++ [0]) st.own.length b r x ((st.next pr r).move ⟨a, "is", vN c, st.own.length⟩)).own.length b r y (((layBody (layS E pr d) (canS E d) pr (p ++ [0]) st.own.length b r x ((st.next pr r).move ⟨a, "is", vN c, st.own.length⟩)).next pr r).move ⟨a, "not", vN c, (layBody (layS E pr d) (canS E d) pr (p ++ [0]) st.own.length b r x ((st.next pr r).move ⟨a, "is", vN c, st.own.length⟩)).own.length⟩)).mv, m ∈ mvF := hm
      have hp' : ∀ q, Under pr p 0 (pr, q) → paF q = (layBody (layS E pr d) (canS E d) pr (p ++ [1]) (layBody (layS E pr d) (canS E d) pr (p ++ [0]) st.own.length b r x ((st.next pr r).move ⟨a, "is", vN c, st.own.length⟩)).own.length b r y (((layBody (layS E pr d) (canS E d) pr (p ++ [0]) st.own.length b r x ((st.next pr r).move ⟨a, "is", vN c, st.own.length⟩)).next pr r).move ⟨a, "not", vN c, (layBody (layS E pr d) (canS E d) pr (p ++ [0]) st.own.length b r x ((st.next pr r).move ⟨a, "is", vN c, st.own.length⟩)).own.length⟩)).pa (pr, q) := hp
      generalize e1 : layBody (layS E pr d) (canS E d) pr (p ++ [0]) st.own.length b r x ((st.next pr r).move ⟨a, "is", vN c, st.own.length⟩) = st1 at hm' hp'
      have g1 : Grow st1 (layBody (layS E pr d) (canS E d) pr (p ++ [1]) st1.own.length b r y ((st1.next pr r).move ⟨a, "not", vN c, st1.own.length⟩)) := ((Grow.next _ _ _).trans (Grow.move _ _)).trans (layBody_grow hg _ _)
      have m0 : (⟨a, "is", vN c, st.own.length⟩ : Mv) ∈ st1.mv := by
        rw [← e1]
        exact sub (layBody_grow hg _ _) (lst _ _)
      refine ⟨st.own.length, st1.own.length, hm' _ (sub g1 m0), laidBody_of (r := r) (can := canS E d) hg hf hL x ((st.next pr r).move ⟨a, "is", vN c, st.own.length⟩) h.2.1 (fun m hq => hm' m (sub g1 (by rw [← e1]; exact hq))) (fun q hq => ?_), hm' _ (sub (layBody_grow hg _ _) (lst _ _)),
        laidBody_of (r := r) (can := canS E d) hg hf hL y _ h.2.2 hm' fun q hq => hp' q (und hq)⟩
      rw [hp' q (und hq), layBody_pa hf _ _ _ (apart (by decide) hq), e1]
      rfl
    | loop body =>
      refine ⟨st.own.length, hm _ (sub ((layBody_grow hg _ _).trans (Grow.move _ _)) (lst _ _)), laidBody_of hg hf hL body _ h (fun m hq => hm m (List.mem_append_left _ hq)) (fun q hq => hp q (und hq)), hm _ (lst _ _)⟩
end
end Dp
namespace Dp
open PySem L2
/-! ### the procedures that are called in a body, by statements that are come to -/
def ownCall : Stm → List Nat
  | .plain .call n => [n]
  | _ => []
def callsList (g : Stm → List Nat) (can : Stm → Bool) : List Stm → List Nat
  | [] => []
  | s :: r => ownCall s ++ (g s ++ if can s = true then callsList g can r else [])
def callsS (E : List Nat) : Nat → Stm → List Nat
  | 0, _ => []
  | d + 1, s => match s with
    | .skip => []
    | .plain _ _ => []
    | .hold _ b => callsList (callsS E d) (canS E d) b
    | .either a b => callsList (callsS E d) (canS E d) a ++ callsList (callsS E d) (canS E d) b
    | .when _ a b => callsList (callsS E d) (canS E d) a ++ callsList (callsS E d) (canS E d) b
    | .loop b => callsList (callsS E d) (canS E d) b
abbrev callsB (E : List Nat) (d : Nat) (b : List Stm) : List Nat := callsList (callsS E d) (canS E d) b
theorem callsList_len {g : Stm → List Nat} {can : Stm → Bool} {f : Stm → Nat} (h : ∀ s, (g s).length + (ownCall s).length ≤ f s) : ∀ b, (callsList g can b).length ≤ szL f b
  | [] => Nat.le_refl _
  | s :: r => by
    have h1 := h s
    have h2 := callsList_len h r (can := can)
    show (ownCall s ++ (g s ++ if can s = true then callsList g can r else [])).length ≤ f s + szL f r
    rw [List.length_append, List.length_append]
    split
    · omega
    · simp; omega
theorem callsS_len {E : List Nat} : ∀ (d : Nat) (s : Stm), (callsS E d s).length + (ownCall s).length ≤ szS d s
  | 0, s => by
    show 0 + (ownCall s).length ≤ 1
    cases s with
    | plain w n => cases w <;> simp [ownCall]
    | _ => simp [ownCall]
  | d + 1, s => by
    have ih := callsS_len (E := E) d
    cases s with
    | skip => simp [callsS, ownCall, szS]
    | plain w n => cases w <;> simp [callsS, ownCall, szS]
    | hold k b =>
      have h := callsList_len (can := canS E d) ih b
      show (callsList (callsS E d) (canS E d) b).length + 0 ≤ 1 + szL (szS d) b
      omega
    | either a b =>
      have h := callsList_len (can := canS E d) ih a
      have h2 := callsList_len (can := canS E d) ih b
      show (callsList (callsS E d) (canS E d) a ++ callsList (callsS E d) (canS E d) b).length + 0 ≤ 1 + (szL (szS d) a + szL (szS d) b)
      rw [List.length_append]
      omega
    | when m a b =>
      have h := callsList_len (can := canS E d) ih a
      have h2 := callsList_len (can := canS E d) ih b
      show (callsList (callsS E d) (canS E d) a ++ callsList (callsS E d) (canS E d) b).length + 0 ≤ 1 + (szL (szS d) a + szL (szS d) b)
      rw [List.length_append]
      omega
    | loop b =>
      have h := callsList_len (can := canS E d) ih b
      show (callsList (callsS E d) (canS E d) b).length + 0 ≤ 1 + szL (szS d) b
      omega

/-! ### labels -/
def labAt (labs : List Prop) (x : Nat) : Prop := ∃ p, labs[x]? = some p ∧ p
structure MvGood (labs : List Prop) (R : Nat → Prop) (E : List Nat) (m : Mv) : Prop where
  call : m.kind = "call" → ∃ w : Nat, m.what = vN w ∧ (labAt labs m.near → R w ∧ (w ∈ E → labAt labs m.far))
  else_ : ¬ m.kind = "call" → labAt labs m.near → labAt labs m.far
theorem ne_step : ¬ ("step" : Str) = "call" := by decide +kernel
theorem ne_take : ¬ ("take" : Str) = "call" := by decide +kernel
theorem ne_give : ¬ ("give" : Str) = "call" := by decide +kernel
theorem ne_is : ¬ ("is" : Str) = "call" := by decide +kernel
theorem ne_not : ¬ ("not" : Str) = "call" := by decide +kernel
theorem PW.str_call {w : PW} : w.str = "call" ↔ w = .call := by
  cases w <;> first | exact ⟨fun _ => rfl, fun _ => rfl⟩ | exact ⟨fun h => absurd h (by decide +kernel), fun h => by cases h⟩
section
variable {labs : List Prop} {R : Nat → Prop} {E : List Nat} {pr : Nat}
theorem lab_new {l : List Prop} {p : Prop} (h : (l ++ [p]) <+: labs) : labs[l.length]? = some p := by
  obtain ⟨t, rfl⟩ := h
  simp
theorem labAt_iff {x : Nat} {p : Prop} (h : labs[x]? = some p) : labAt labs x ↔ p := ⟨fun ⟨q, e, hq⟩ => by rw [h] at e; cases e; exact hq, fun hp => ⟨p, h, hp⟩⟩
/-- the label of the next place -/
theorem lab_next {st st' : LS} {p : Prop} (hl : st.lab.length = st.own.length) (g : Grow (st.next pr p) st') (h : st'.lab <+: labs) : labAt labs st.own.length ↔ p := by
  refine labAt_iff ?_
  rw [← hl]
  exact lab_new (g.lab.trans h)
theorem good_step {k : Str} {v : V} {a b : Nat} (hk : ¬ k = "call") (h : labAt labs a → labAt labs b) : MvGood labs R E ⟨a, k, v, b⟩ := ⟨fun e => absurd e hk, fun _ => h⟩
theorem good_move {st : LS} {m : Mv} (h : ∀ x ∈ st.mv, MvGood labs R E x) (hm : MvGood labs R E m) : ∀ x ∈ (st.move m).mv, MvGood labs R E x := fun x hx => by
  rcases List.mem_append.mp hx with hx | hx
  · exact h x hx
  · rw [List.mem_singleton.mp hx]; exact hm
theorem goodList {f : Prop → Stm → List Nat → Nat → Nat → LS → LS} {can : Stm → Bool} {g : Stm → List Nat} {far : Nat} {path : List Nat}
    (hg : ∀ r s p a b st, Grow st (f r s p a b st))
    (hf : ∀ (r : Prop) s p a b st, st.lab.length = st.own.length → (f r s p a b st).lab <+: labs → (labAt labs a → r) → (r → can s = true → labAt labs b) → (r → ∀ w ∈ ownCall s ++ g s, R w) → (∀ m ∈ st.mv, MvGood labs R E m) → ∀ m ∈ (f r s p a b st).mv, MvGood labs R E m) :
    ∀ (l : List Stm) (r : Prop) (i near : Nat) (st : LS), st.lab.length = st.own.length → (layList f can pr far path r l i near st).lab <+: labs → (labAt labs near → r) → (l ≠ [] → r → l.all can = true → labAt labs far) → (r → ∀ w ∈ callsList g can l, R w) →
      (∀ m ∈ st.mv, MvGood labs R E m) → ∀ m ∈ (layList f can pr far path r l i near st).mv, MvGood labs R E m := by
  intro l
  induction l with
  | nil => intro r i near st _ _ _ _ _ h; exact h
  | cons s l ih =>
    intro r i near st hl hp hn hfar hc h
    cases l with
    | nil =>
      refine hf r s (path ++ [i]) near far _ hl hp hn (fun hr hs => hfar (by simp) hr (by simp [hs])) (fun hr w hw => hc hr w ?_) h
      show w ∈ ownCall s ++ (g s ++ _)
      rw [← List.append_assoc]
      exact List.mem_append_left _ hw
    | cons t l =>
      have gN : Grow (st.next pr (r ∧ can s = true)) (f r s (path ++ [i]) near st.own.length ((st.next pr (r ∧ can s = true)).path (pr, path ++ [i]) near)) := (Grow.path _ _ _).trans (hg _ _ _ _ _ _)
      have gL : Grow (f r s (path ++ [i]) near st.own.length ((st.next pr (r ∧ can s = true)).path (pr, path ++ [i]) near)) (layList f can pr far path (r ∧ can s = true) (t :: l) (i + 1) st.own.length (f r s (path ++ [i]) near st.own.length ((st.next pr (r ∧ can s = true)).path (pr, path ++ [i]) near))) := layList_grow hg _ _ _ _ _
      have hp' : (layList f can pr far path (r ∧ can s = true) (t :: l) (i + 1) st.own.length (f r s (path ++ [i]) near st.own.length ((st.next pr (r ∧ can s = true)).path (pr, path ++ [i]) near))).lab <+: labs := hp
      have lb := lab_next (labs := labs) hl (gN.trans gL) hp'
      have hl1 : ((st.next pr (r ∧ can s = true)).path (pr, path ++ [i]) near).lab.length = ((st.next pr (r ∧ can s = true)).path (pr, path ++ [i]) near).own.length := (Grow.next st pr (r ∧ can s = true)).len hl
      refine ih (r ∧ can s = true) (i + 1) st.own.length _ ((hg _ _ _ _ _ _).len hl1) hp' lb.mp (fun _ hr ha => hfar (by simp) hr.1 (by rw [List.all_cons, hr.2]; exact ha)) (fun hr w hw => hc hr.1 w ?_) ?_
      · show w ∈ ownCall s ++ (g s ++ if can s = true then callsList g can (t :: l) else [])
        rw [if_pos hr.2]
        exact List.mem_append_right _ (List.mem_append_right _ hw)
      · refine hf r s (path ++ [i]) near st.own.length _ hl1 (gL.lab.trans hp') hn (fun hr hs => lb.mpr ⟨hr, hs⟩) (fun hr w hw => hc hr w ?_) h
        show w ∈ ownCall s ++ (g s ++ _)
        rw [← List.append_assoc]
        exact List.mem_append_left _ hw
theorem goodBody {f : Prop → Stm → List Nat → Nat → Nat → LS → LS} {can : Stm → Bool} {g : Stm → List Nat} {near far : Nat} {path : List Nat} {r : Prop}
    (hg : ∀ r s p a b st, Grow st (f r s p a b st))
    (hf : ∀ (r : Prop) s p a b st, st.lab.length = st.own.length → (f r s p a b st).lab <+: labs → (labAt labs a → r) → (r → can s = true → labAt labs b) → (r → ∀ w ∈ ownCall s ++ g s, R w) → (∀ m ∈ st.mv, MvGood labs R E m) → ∀ m ∈ (f r s p a b st).mv, MvGood labs R E m)
    (l : List Stm) (st : LS) (hl : st.lab.length = st.own.length) (hp : (layBody f can pr path near far r l st).lab <+: labs) (hn : labAt labs near → r) (hfar : r → l.all can = true → labAt labs far) (hc : r → ∀ w ∈ callsList g can l, R w)
    (h : ∀ m ∈ st.mv, MvGood labs R E m) : ∀ m ∈ (layBody f can pr path near far r l st).mv, MvGood labs R E m := by
  unfold layBody at hp ⊢
  refine goodList hg hf l r 0 near _ ?_ hp hn (fun _ => hfar) hc ?_
  · split
    · exact hl
    · exact hl
  · split
    · rename_i e
      refine good_move h (good_step ne_step fun hx => hfar (hn hx) (by rw [e]; rfl))
    · exact h
theorem goodS : ∀ (d : Nat) (r : Prop) (s : Stm) (p : List Nat) (a b : Nat) (st : LS), st.lab.length = st.own.length → (layS E pr d r s p a b st).lab <+: labs → (labAt labs a → r) → (r → canS E d s = true → labAt labs b) →
      (r → ∀ w ∈ ownCall s ++ callsS E d s, R w) → (∀ m ∈ st.mv, MvGood labs R E m) → ∀ m ∈ (layS E pr d r s p a b st).mv, MvGood labs R E m
  | 0, _, _, _, _, _, _, _, _, _, _, _, h => h
  | d + 1, r, s, p, a, b, st, hl, hp, ha, hb, hc, h => by
    have hg := layS_grow (E := E) (pr := pr) d
    have hf := goodS d
    cases s with
    | skip => exact good_move h (good_step ne_step fun x => hb (ha x) rfl)
    | plain w n =>
      refine good_move h ⟨fun e => ⟨n, rfl, fun hx => ?_⟩, fun e hx => hb (ha hx) ?_⟩
      · have e' : w = .call := PW.str_call.mp e
        subst e'
        refine ⟨hc (ha hx) n (by simp [ownCall]), fun hE => hb (ha hx) ?_⟩
        show (if PW.call = PW.call then decide (n ∈ E) else true) = true
        rw [if_pos rfl]
        exact decide_eq_true hE
      · show (if w = PW.call then decide (n ∈ E) else true) = true
        rw [if_neg fun z => e (PW.str_call.mpr z)]
    | hold k body =>
      have hp' : (layBody (layS E pr d) (canS E d) pr (p ++ [0]) st.own.length (st.own.length + 1) r body (((st.next pr r).move ⟨a, "take", vN k, st.own.length⟩).next pr (r ∧ canB E d body = true))).lab <+: labs := hp
      have l1 : ((st.next pr r).move ⟨a, "take", vN k, st.own.length⟩).lab.length = ((st.next pr r).move ⟨a, "take", vN k, st.own.length⟩).own.length := (Grow.next st pr r).len hl
      have n1 := lab_next (labs := labs) hl ((Grow.move _ ⟨a, "take", vN k, st.own.length⟩).trans ((Grow.next _ pr (r ∧ canB E d body = true)).trans (layBody_grow hg _ _))) hp'
      have n2 := lab_next (labs := labs) l1 (layBody_grow hg _ _) hp'
      have e2 : ((st.next pr r).move ⟨a, "take", vN k, st.own.length⟩).own.length = st.own.length + 1 := by simp [LS.next, LS.move]
      rw [e2] at n2
      refine good_move (goodBody (g := callsS E d) hg hf body _ ((Grow.next _ pr (r ∧ canB E d body = true)).len l1) hp' n1.mp (fun hr hcan => n2.mpr ⟨hr, hcan⟩) (fun hr w hw => hc hr w (by simpa [ownCall, callsS] using hw)) ?_) (good_step ne_give fun x => hb (n2.mp x).1 (n2.mp x).2)
      exact good_move h (good_step ne_take fun x => n1.mpr (ha x))
    | either x y =>
      have hp' : (layBody (layS E pr d) (canS E d) pr (p ++ [1]) (layBody (layS E pr d) (canS E d) pr (p ++ [0]) st.own.length b r x ((st.next pr r).move ⟨a, "step", .non, st.own.length⟩)).own.length b r y (((layBody (layS E pr d) (canS E d) pr (p ++ [0]) st.own.length b r x ((st.next pr r).move ⟨a, "step", .non, st.own.length⟩)).next pr r).move ⟨a, "step", .non, (layBody (layS E pr d) (canS E d) pr (p ++ [0]) st.own.length b r x ((st.next pr r).move ⟨a, "step", .non, st.own.length⟩)).own.length⟩)).lab <+: labs := hp
      have l1 : ((st.next pr r).move ⟨a, "step", .non, st.own.length⟩).lab.length = ((st.next pr r).move ⟨a, "step", .non, st.own.length⟩).own.length := (Grow.next st pr r).len hl
      have gB : Grow ((st.next pr r).move ⟨a, "step", .non, st.own.length⟩) (layBody (layS E pr d) (canS E d) pr (p ++ [0]) st.own.length b r x ((st.next pr r).move ⟨a, "step", .non, st.own.length⟩)) := layBody_grow hg _ _
      have fin : ∀ st1 : LS, Grow ((st.next pr r).move ⟨a, "step", .non, st.own.length⟩) st1 → st1.lab.length = st1.own.length → (layBody (layS E pr d) (canS E d) pr (p ++ [1]) st1.own.length b r y ((st1.next pr r).move ⟨a, "step", .non, st1.own.length⟩)).lab <+: labs →
          ((st1.lab <+: labs) → ∀ m ∈ st1.mv, MvGood labs R E m) → ∀ m ∈ (layBody (layS E pr d) (canS E d) pr (p ++ [1]) st1.own.length b r y ((st1.next pr r).move ⟨a, "step", .non, st1.own.length⟩)).mv, MvGood labs R E m := fun st1 g0 hl1 hp1 h1 => by
        have g1 : Grow (st1.next pr r) (layBody (layS E pr d) (canS E d) pr (p ++ [1]) st1.own.length b r y ((st1.next pr r).move ⟨a, "step", .non, st1.own.length⟩)) := (Grow.move _ _).trans (layBody_grow hg _ _)
        have n2 := lab_next (labs := labs) hl1 g1 hp1
        refine goodBody (g := callsS E d) hg hf y _ ((Grow.next st1 pr r).len hl1) hp1 n2.mp (fun hr hcan => hb hr ?_) (fun hr w hw => hc hr w (by simp [ownCall, callsS]; exact .inr hw)) (good_move (h1 (((Grow.next st1 pr r).trans g1).lab.trans hp1)) (good_step ne_step fun z => n2.mpr (ha z)))
        show (x.all (canS E d) || y.all (canS E d)) = true
        rw [hcan, Bool.or_true]
      refine fin _ gB (gB.len l1) hp' fun hpm => ?_
      have n1 := lab_next (labs := labs) hl ((Grow.move _ ⟨a, "step", .non, st.own.length⟩).trans gB) hpm
      refine goodBody (g := callsS E d) hg hf x _ l1 hpm n1.mp (fun hr hcan => hb hr ?_) (fun hr w hw => hc hr w (by simp [ownCall, callsS]; exact .inl hw)) (good_move h (good_step ne_step fun z => n1.mpr (ha z)))
      show (x.all (canS E d) || y.all (canS E d)) = true
      rw [hcan, Bool.true_or]
    | when c x y =>
      have hp' : (layBody (layS E pr d) (canS E d) pr (p ++ [1]) (layBody (layS E pr d) (canS E d) pr (p ++ [0]) st.own.length b r x ((st.next pr r).move ⟨a, "is", vN c, st.own.length⟩)).own.length b r y (((layBody (layS E pr d) (canS E d) pr (p ++ [0]) st.own.length b r x ((st.next pr r).move ⟨a, "is", vN c, st.own.length⟩)).next pr r).move ⟨a, "not", vN c, (layBody (layS E pr d) (canS E d) pr (p ++ [0]) st.own.length b r x ((st.next pr r).move ⟨a, "is", vN c, st.own.length⟩)).own.length⟩)).lab <+: labs := hp
      have l1 : ((st.next pr r).move ⟨a, "is", vN c, st.own.length⟩).lab.length = ((st.next pr r).move ⟨a, "is", vN c, st.own.length⟩).own.length := (Grow.next st pr r).len hl
      have gB : Grow ((st.next pr r).move ⟨a, "is", vN c, st.own.length⟩) (layBody (layS E pr d) (canS E d) pr (p ++ [0]) st.own.length b r x ((st.next pr r).move ⟨a, "is", vN c, st.own.length⟩)) := layBody_grow hg _ _
      have fin : ∀ st1 : LS, Grow ((st.next pr r).move ⟨a, "is", vN c, st.own.length⟩) st1 → st1.lab.length = st1.own.length → (layBody (layS E pr d) (canS E d) pr (p ++ [1]) st1.own.length b r y ((st1.next pr r).move ⟨a, "not", vN c, st1.own.length⟩)).lab <+: labs →
          ((st1.lab <+: labs) → ∀ m ∈ st1.mv, MvGood labs R E m) → ∀ m ∈ (layBody (layS E pr d) (canS E d) pr (p ++ [1]) st1.own.length b r y ((st1.next pr r).move ⟨a, "not", vN c, st1.own.length⟩)).mv, MvGood labs R E m := fun st1 g0 hl1 hp1 h1 => by
        have g1 : Grow (st1.next pr r) (layBody (layS E pr d) (canS E d) pr (p ++ [1]) st1.own.length b r y ((st1.next pr r).move ⟨a, "not", vN c, st1.own.length⟩)) := (Grow.move _ _).trans (layBody_grow hg _ _)
        have n2 := lab_next (labs := labs) hl1 g1 hp1
        refine goodBody (g := callsS E d) hg hf y _ ((Grow.next st1 pr r).len hl1) hp1 n2.mp (fun hr hcan => hb hr ?_) (fun hr w hw => hc hr w (by simp [ownCall, callsS]; exact .inr hw)) (good_move (h1 (((Grow.next st1 pr r).trans g1).lab.trans hp1)) (good_step ne_not fun z => n2.mpr (ha z)))
        show (x.all (canS E d) || y.all (canS E d)) = true
        rw [hcan, Bool.or_true]
      refine fin _ gB (gB.len l1) hp' fun hpm => ?_
      have n1 := lab_next (labs := labs) hl ((Grow.move _ ⟨a, "is", vN c, st.own.length⟩).trans gB) hpm
      refine goodBody (g := callsS E d) hg hf x _ l1 hpm n1.mp (fun hr hcan => hb hr ?_) (fun hr w hw => hc hr w (by simp [ownCall, callsS]; exact .inl hw)) (good_move h (good_step ne_is fun z => n1.mpr (ha z)))
      show (x.all (canS E d) || y.all (canS E d)) = true
      rw [hcan, Bool.true_or]
    | loop body =>
      have hp' : (layBody (layS E pr d) (canS E d) pr (p ++ [0]) st.own.length st.own.length r body ((st.next pr r).move ⟨a, "step", .non, st.own.length⟩)).lab <+: labs := hp
      have l1 : ((st.next pr r).move ⟨a, "step", .non, st.own.length⟩).lab.length = ((st.next pr r).move ⟨a, "step", .non, st.own.length⟩).own.length := (Grow.next st pr r).len hl
      have n1 := lab_next (labs := labs) hl ((Grow.move _ ⟨a, "step", .non, st.own.length⟩).trans (layBody_grow hg _ _)) hp'
      refine good_move (goodBody (g := callsS E d) hg hf body _ l1 hp' n1.mp (fun hr _ => n1.mpr hr) (fun hr w hw => hc hr w (by simpa [ownCall, callsS] using hw)) ?_) (good_step ne_step fun x => hb (n1.mp x) rfl)
      exact good_move h (good_step ne_step fun x => n1.mpr (ha x))
end
end Dp
namespace Dp
open PySem L2
/-! ### the moves' places and calls are in bounds -/
structure MvOk (P n : Nat) (m : Mv) : Prop where
  near : m.near < n
  far : m.far < n
  call : m.kind = "call" → ∃ w : Nat, m.what = vN w ∧ w < P
theorem MvOk.mono {P n n' : Nat} {m : Mv} (h : MvOk P n m) (hn : n ≤ n') : MvOk P n' m := ⟨Nat.lt_of_lt_of_le h.near hn, Nat.lt_of_lt_of_le h.far hn, h.call⟩
abbrev LOk (P : Nat) (st : LS) : Prop := ∀ m ∈ st.mv, MvOk P st.own.length m
theorem LOk.next {P : Nat} {st : LS} (h : LOk P st) (pr : Nat) (l : Prop) : LOk P (st.next pr l) := fun m hm => (h m hm).mono (by simp [LS.next])
theorem LOk.path {P : Nat} {st : LS} (h : LOk P st) (k : Nat × List Nat) (v : Nat) : LOk P (st.path k v) := h
theorem LOk.move {P : Nat} {st : LS} (h : LOk P st) {m : Mv} (hm : MvOk P st.own.length m) : LOk P (st.move m) := fun x hx => by
  rcases List.mem_append.mp hx with hx | hx
  · exact h x hx
  · rw [List.mem_singleton.mp hx]; exact hm
theorem mv_plain {P n a b : Nat} {k : Str} {v : V} (hk : ¬ k = "call") (ha : a < n) (hb : b < n) : MvOk P n ⟨a, k, v, b⟩ := ⟨ha, hb, fun e => absurd e hk⟩
theorem own_le {s t : LS} (g : Grow s t) : s.own.length ≤ t.own.length := g.own.length_le
theorem own_next {st : LS} {pr : Nat} {l : Prop} : (st.next pr l).own.length = st.own.length + 1 := by simp [LS.next]
section
variable {sh : Sh} {E : List Nat} {pr : Nat}
theorem okList {f : Prop → Stm → List Nat → Nat → Nat → LS → LS} {can : Stm → Bool} {far : Nat} {path : List Nat} {ok : Stm → Prop}
    (hg : ∀ r s p a b st, Grow st (f r s p a b st)) (hf : ∀ r s p a b st, ok s → a < st.own.length → b < st.own.length → LOk sh.P st → LOk sh.P (f r s p a b st)) :
    ∀ (l : List Stm) (r : Prop) (i near : Nat) (st : LS), (∀ s ∈ l, ok s) → near < st.own.length → far < st.own.length → LOk sh.P st → LOk sh.P (layList f can pr far path r l i near st) := by
  intro l
  induction l with
  | nil => intro r i near st _ _ _ h; exact h
  | cons s l ih =>
    intro r i near st hok hn hb h
    cases l with
    | nil => exact hf _ _ _ _ _ _ (hok s List.mem_cons_self) hn hb h
    | cons t l =>
      have e := own_next (st := st) (pr := pr) (l := r ∧ can s = true)
      have g := own_le (hg r s (path ++ [i]) near st.own.length ((st.next pr (r ∧ can s = true)).path (pr, path ++ [i]) near))
      have e2 : ((st.next pr (r ∧ can s = true)).path (pr, path ++ [i]) near).own.length = st.own.length + 1 := e
      rw [e2] at g
      refine ih _ _ _ _ (fun s hs => hok s (List.mem_cons_of_mem _ hs)) (Nat.lt_of_lt_of_le (Nat.lt_succ_self _) g) (Nat.lt_of_lt_of_le (Nat.lt_succ_of_lt hb) g) ?_
      refine hf _ _ _ _ _ _ (hok s List.mem_cons_self) ?_ ?_ ((h.next pr _).path _ _)
      · rw [e2]; exact Nat.lt_succ_of_lt hn
      · rw [e2]; exact Nat.lt_succ_self _
theorem okBody {f : Prop → Stm → List Nat → Nat → Nat → LS → LS} {can : Stm → Bool} {near far : Nat} {path : List Nat} {ok : Stm → Prop} {r : Prop}
    (hg : ∀ r s p a b st, Grow st (f r s p a b st)) (hf : ∀ r s p a b st, ok s → a < st.own.length → b < st.own.length → LOk sh.P st → LOk sh.P (f r s p a b st))
    (l : List Stm) (st : LS) (hok : ∀ s ∈ l, ok s) (hn : near < st.own.length) (hb : far < st.own.length) (h : LOk sh.P st) : LOk sh.P (layBody f can pr path near far r l st) := by
  unfold layBody
  split
  · exact okList hg hf l r 0 near _ hok hn hb (h.move (mv_plain ne_step hn hb))
  · exact okList hg hf l r 0 near _ hok hn hb h
theorem lay_ok : ∀ (d : Nat) (r : Prop) (s : Stm) (p : List Nat) (a b : Nat) (st : LS), okS sh d s → a < st.own.length → b < st.own.length → LOk sh.P st → LOk sh.P (layS E pr d r s p a b st)
  | 0, _, _, _, _, _, _, h, _, _, _ => h.elim
  | d + 1, r, s, p, a, b, st, hok, ha, hb, h => by
    have hg := layS_grow (E := E) (pr := pr) d
    have hf := lay_ok d
    have e1 := own_next (st := st) (pr := pr) (l := r)
    have ha1 : a < (st.next pr r).own.length := by rw [e1]; exact Nat.lt_succ_of_lt ha
    have hb1 : b < (st.next pr r).own.length := by rw [e1]; exact Nat.lt_succ_of_lt hb
    have hn1 : st.own.length < (st.next pr r).own.length := by rw [e1]; exact Nat.lt_succ_self _
    have two : ∀ {k : Str} {v : V} {x : List Stm} {j : Nat} (st1 : LS), ¬ k = "call" → (∀ s ∈ x, okS sh d s) → a < st1.own.length → b < st1.own.length → LOk sh.P st1 →
        LOk sh.P (layBody (layS E pr d) (canS E d) pr (p ++ [j]) st1.own.length b r x ((st1.next pr r).move ⟨a, k, v, st1.own.length⟩)) := fun {k v x j} st1 hk hx ha hb h => by
      have e := own_next (st := st1) (pr := pr) (l := r)
      have ha1 : a < (st1.next pr r).own.length := by rw [e]; exact Nat.lt_succ_of_lt ha
      have hb1 : b < (st1.next pr r).own.length := by rw [e]; exact Nat.lt_succ_of_lt hb
      have hn1 : st1.own.length < (st1.next pr r).own.length := by rw [e]; exact Nat.lt_succ_self _
      exact okBody hg hf x _ hx hn1 hb1 ((h.next pr r).move (mv_plain hk ha1 hn1))
    have grow : ∀ {k : Str} {v : V} {x : List Stm} {j : Nat} (st1 : LS), st1.own.length ≤ (layBody (layS E pr d) (canS E d) pr (p ++ [j]) st1.own.length b r x ((st1.next pr r).move ⟨a, k, v, st1.own.length⟩)).own.length := fun st1 =>
      own_le ((Grow.next st1 pr r).trans ((Grow.move _ _).trans (layBody_grow hg _ _)))
    cases s with
    | skip => exact h.move (mv_plain ne_step ha hb)
    | plain w n =>
      refine h.move ⟨ha, hb, fun e => ⟨n, rfl, ?_⟩⟩
      have e' : w = .call := PW.str_call.mp e
      subst e'
      exact hok
    | hold k body =>
      have e2 : (((st.next pr r).move ⟨a, "take", vN k, st.own.length⟩).next pr (r ∧ canB E d body = true)).own.length = st.own.length + 2 := by simp [LS.next, LS.move]
      have h2 : LOk sh.P (((st.next pr r).move ⟨a, "take", vN k, st.own.length⟩).next pr (r ∧ canB E d body = true)) := ((h.next pr r).move (mv_plain ne_take ha1 hn1)).next pr _
      have hB := okBody (pr := pr) (can := canS E d) (near := st.own.length) (far := st.own.length + 1) (path := p ++ [0]) (r := r) hg hf body _ hok.2 (by rw [e2]; omega) (by rw [e2]; omega) h2
      have gB := own_le (layBody_grow (can := canS E d) (pr := pr) (near := st.own.length) (far := st.own.length + 1) (path := p ++ [0]) (r := r) hg body (((st.next pr r).move ⟨a, "take", vN k, st.own.length⟩).next pr (r ∧ canB E d body = true)))
      rw [e2] at gB
      exact hB.move (mv_plain ne_give (by omega) (by omega))
    | either x y =>
      have h1 := two (x := x) (v := .non) (j := 0) st ne_step hok.1 ha hb h
      have g1 := grow (x := x) (v := .non) (k := "step") (j := 0) st
      exact two _ ne_step hok.2 (Nat.lt_of_lt_of_le ha g1) (Nat.lt_of_lt_of_le hb g1) h1
    | when m x y =>
      have h1 := two (x := x) (v := vN m) (j := 0) st ne_is hok.2.1 ha hb h
      have g1 := grow (x := x) (v := vN m) (k := "is") (j := 0) st
      exact two _ ne_not hok.2.2 (Nat.lt_of_lt_of_le ha g1) (Nat.lt_of_lt_of_le hb g1) h1
    | loop body =>
      have hB := okBody (pr := pr) (can := canS E d) (near := st.own.length) (far := st.own.length) (path := p ++ [0]) (r := r) hg hf body ((st.next pr r).move ⟨a, "step", .non, st.own.length⟩) hok hn1 hn1 ((h.next pr r).move (mv_plain ne_step ha1 hn1))
      have gB := own_le (layBody_grow (can := canS E d) (pr := pr) (near := st.own.length) (far := st.own.length) (path := p ++ [0]) (r := r) hg body ((st.next pr r).move ⟨a, "step", .non, st.own.length⟩))
      have e2 : ((st.next pr r).move ⟨a, "step", .non, st.own.length⟩).own.length = st.own.length + 1 := e1
      rw [e2] at gB
      exact hB.move (mv_plain ne_step (by omega) (by omega))
end

/-! ### alive places -/
inductive Alive (mv : List Mv) (bg en : Nat → Nat) (th : List Nat) : Nat → Prop
  | thread {t : Nat} : t ∈ th → Alive mv bg en th (bg t)
  | step {m : Mv} : m ∈ mv → ¬ m.kind = "call" → Alive mv bg en th m.near → Alive mv bg en th m.far
  | callee {m : Mv} {w : Nat} : m ∈ mv → m.kind = "call" → m.what = vN w → Alive mv bg en th m.near → Alive mv bg en th (bg w)
  | back {m : Mv} {w : Nat} : m ∈ mv → m.kind = "call" → m.what = vN w → Alive mv bg en th m.near → Alive mv bg en th (en w) → Alive mv bg en th m.far
inductive Reach (calls : Nat → List Nat) (th : List Nat) : Nat → Prop
  | thread {t : Nat} : t ∈ th → Reach calls th t
  | call {p c : Nat} : Reach calls th p → c ∈ calls p → Reach calls th c

/-! ### the law's walk -/
def wkList (g : Stm → List Nat → List Nat) (can : Stm → Bool) (look : List Nat → Nat) (path : List Nat) : List Stm → Nat → List Nat
  | [], _ => []
  | s :: r, i => look (path ++ [i]) :: (g s (path ++ [i]) ++ if can s = true then wkList g can look path r (i + 1) else [])
def wkS (E : List Nat) (look : List Nat → Nat) : Nat → Stm → List Nat → List Nat
  | 0, _, _ => []
  | d + 1, s, p => match s with
    | .skip => []
    | .plain _ _ => []
    | .hold _ b => wkList (wkS E look d) (canS E d) look (p ++ [0]) b 0
    | .either a b => wkList (wkS E look d) (canS E d) look (p ++ [0]) a 0 ++ wkList (wkS E look d) (canS E d) look (p ++ [1]) b 0
    | .when _ a b => wkList (wkS E look d) (canS E d) look (p ++ [0]) a 0 ++ wkList (wkS E look d) (canS E d) look (p ++ [1]) b 0
    | .loop b => wkList (wkS E look d) (canS E d) look (p ++ [0]) b 0
abbrev wkB (E : List Nat) (look : List Nat → Nat) (d : Nat) (path : List Nat) (b : List Stm) : List Nat := wkList (wkS E look d) (canS E d) look path b 0
section
variable {mvF : List Mv} {paF : List Nat → Option Nat} {bg en : Nat → Nat} {th : List Nat}
/-- what can end does, from an alive place -/
theorem can_list {g : Stm → List Nat → Nat → Nat → Prop} {can : Stm → Bool} {AL : Nat → Prop} {path : List Nat} {far : Nat} (hg : ∀ s p a b, g s p a b → AL a → can s = true → AL b) :
    ∀ (l : List Stm) (i near : Nat), l ≠ [] → LaidList paF g path far l i near → AL near → l.all can = true → AL far
  | [], _, _, h, _, _, _ => absurd rfl h
  | [s], i, near, _, h, ha, hc => hg s _ _ _ h.2 ha (by simpa using hc)
  | s :: t :: l, i, near, _, h, ha, hc => by
    obtain ⟨_, to, h1, h2⟩ := h
    rw [List.all_cons, Bool.and_eq_true] at hc
    exact can_list hg (t :: l) (i + 1) to (by simp) h2 (hg s _ _ _ h1 ha hc.1) hc.2
theorem can_body {g : Stm → List Nat → Nat → Nat → Prop} {can : Stm → Bool} {path : List Nat} {near far : Nat} (hg : ∀ s p a b, g s p a b → Alive mvF bg en th a → can s = true → Alive mvF bg en th b) (l : List Stm)
    (h : LaidBody mvF paF g path near far l) (ha : Alive mvF bg en th near) (hc : l.all can = true) : Alive mvF bg en th far := by
  by_cases e : l = []
  · exact .step (h.1 e) ne_step ha
  · exact can_list hg l 0 near e h.2 ha hc
theorem can_alive {E : List Nat} (hE : ∀ w ∈ E, Alive mvF bg en th (bg w) → Alive mvF bg en th (en w)) : ∀ (d : Nat) (s : Stm) (p : List Nat) (a b : Nat), LaidS mvF paF d s p a b → Alive mvF bg en th a → canS E d s = true → Alive mvF bg en th b
  | 0, _, _, _, _, h, _, _ => h.elim
  | d + 1, s, p, a, b, h, ha, hc => by
    have hg := can_alive hE d
    cases s with
    | skip => exact .step h ne_step ha
    | plain w n =>
      by_cases e : w = .call
      · subst e
        have hn : n ∈ E := by
          have hc' : (if PW.call = PW.call then decide (n ∈ E) else true) = true := hc
          rw [if_pos rfl] at hc'
          exact of_decide_eq_true hc'
        have hb : Alive mvF bg en th (bg n) := .callee h rfl rfl ha
        exact .back h rfl rfl ha (hE n hn hb)
      · exact .step h (fun z => e (PW.str_call.mp z)) ha
    | hold k body =>
      obtain ⟨n, m, h1, h2, h3⟩ := h
      exact .step h3 ne_give (can_body hg body h2 (.step h1 ne_take ha) hc)
    | either x y =>
      obtain ⟨n, m, h1, h2, h3, h4⟩ := h
      rcases Bool.or_eq_true_iff.mp (show (x.all (canS E d) || y.all (canS E d)) = true from hc) with z | z
      · exact can_body hg x h2 (.step h1 ne_step ha) z
      · exact can_body hg y h4 (.step h3 ne_step ha) z
    | when c x y =>
      obtain ⟨n, m, h1, h2, h3, h4⟩ := h
      rcases Bool.or_eq_true_iff.mp (show (x.all (canS E d) || y.all (canS E d)) = true from hc) with z | z
      · exact can_body hg x h2 (.step h1 ne_is ha) z
      · exact can_body hg y h4 (.step h3 ne_not ha) z
    | loop body =>
      obtain ⟨n, h1, h2, h3⟩ := h
      exact .step h3 ne_step (.step h1 ne_step ha)
/-- what the walk comes to is alive, and so are the begins of what is called -/
theorem walk_list {g : Stm → List Nat → Nat → Nat → Prop} {wk : Stm → List Nat → List Nat} {cl : Stm → List Nat} {can : Stm → Bool} {path : List Nat} {far : Nat} {look : List Nat → Nat} (hlook : ∀ q n, paF q = some n → look q = n)
    (hg : ∀ s p a b, g s p a b → Alive mvF bg en th a → can s = true → Alive mvF bg en th b)
    (hw : ∀ s p a b, g s p a b → Alive mvF bg en th a → (∀ x ∈ wk s p, Alive mvF bg en th x) ∧ ∀ c ∈ ownCall s ++ cl s, Alive mvF bg en th (bg c)) :
    ∀ (l : List Stm) (i near : Nat), LaidList paF g path far l i near → Alive mvF bg en th near → (∀ x ∈ wkList wk can look path l i, Alive mvF bg en th x) ∧ ∀ c ∈ callsList cl can l, Alive mvF bg en th (bg c)
  | [], _, _, _, _ => ⟨fun x hx => (nomatch hx), fun c hc => (nomatch hc)⟩
  | [s], i, near, h, ha => by
    obtain ⟨w1, w2⟩ := hw s _ _ _ h.2 ha
    refine ⟨fun x hx => ?_, fun c hc => w2 c ?_⟩
    · rcases List.mem_cons.mp hx with hx | hx
      · rw [hx, hlook _ _ h.1]; exact ha
      · refine w1 x ?_
        have e : (if can s = true then wkList wk can look path [] (i + 1) else []) = [] := by split <;> rfl
        rw [e, List.append_nil] at hx
        exact hx
    · have e : (if can s = true then callsList cl can [] else []) = [] := by split <;> rfl
      have hc' : c ∈ ownCall s ++ (cl s ++ if can s = true then callsList cl can [] else []) := hc
      rw [e, List.append_nil] at hc'
      exact hc'
  | s :: t :: l, i, near, h, ha => by
    obtain ⟨e1, to, h1, h2⟩ := h
    obtain ⟨w1, w2⟩ := hw s _ _ _ h1 ha
    by_cases c : can s = true
    · obtain ⟨r1, r2⟩ := walk_list hlook hg hw (t :: l) (i + 1) to h2 (hg s _ _ _ h1 ha c)
      refine ⟨fun x hx => ?_, fun c' hc => ?_⟩
      · have hx' : x ∈ look (path ++ [i]) :: (wk s (path ++ [i]) ++ if can s = true then wkList wk can look path (t :: l) (i + 1) else []) := hx
        rw [if_pos c] at hx'
        rcases List.mem_cons.mp hx' with hx | hx
        · rw [hx, hlook _ _ e1]; exact ha
        · rcases List.mem_append.mp hx with hx | hx
          · exact w1 x hx
          · exact r1 x hx
      · have hc' : c' ∈ ownCall s ++ (cl s ++ if can s = true then callsList cl can (t :: l) else []) := hc
        rw [if_pos c, ← List.append_assoc] at hc'
        rcases List.mem_append.mp hc' with hx | hx
        · exact w2 c' hx
        · exact r2 c' hx
    · refine ⟨fun x hx => ?_, fun c' hc => ?_⟩
      · have hx' : x ∈ look (path ++ [i]) :: (wk s (path ++ [i]) ++ if can s = true then wkList wk can look path (t :: l) (i + 1) else []) := hx
        rw [if_neg c, List.append_nil] at hx'
        rcases List.mem_cons.mp hx' with hx | hx
        · rw [hx, hlook _ _ e1]; exact ha
        · exact w1 x hx
      · have hc' : c' ∈ ownCall s ++ (cl s ++ if can s = true then callsList cl can (t :: l) else []) := hc
        rw [if_neg c, List.append_nil] at hc'
        exact w2 c' hc'
theorem walk_alive {E : List Nat} {look : List Nat → Nat} (hlook : ∀ q n, paF q = some n → look q = n) (hE : ∀ w ∈ E, Alive mvF bg en th (bg w) → Alive mvF bg en th (en w)) :
    ∀ (d : Nat) (s : Stm) (p : List Nat) (a b : Nat), LaidS mvF paF d s p a b → Alive mvF bg en th a → (∀ x ∈ wkS E look d s p, Alive mvF bg en th x) ∧ ∀ c ∈ ownCall s ++ callsS E d s, Alive mvF bg en th (bg c)
  | 0, _, _, _, _, h, _ => h.elim
  | d + 1, s, p, a, b, h, ha => by
    have hg := can_alive hE d (paF := paF)
    have hw := walk_alive hlook hE d
    cases s with
    | skip => exact ⟨fun x hx => (nomatch hx), fun x hx => (nomatch hx)⟩
    | plain w n =>
      refine ⟨fun x hx => (nomatch hx), fun c hc => ?_⟩
      by_cases e : w = .call
      · subst e
        have hc' : c = n := by simpa [ownCall, callsS] using hc
        subst hc'
        exact .callee h rfl rfl ha
      · have hc' : ownCall (.plain w n) = [] := by cases w <;> first | rfl | exact absurd rfl e
        rw [hc'] at hc
        exact nomatch hc
    | hold k body =>
      obtain ⟨n, m, h1, h2, h3⟩ := h
      exact walk_list hlook hg hw body 0 n h2.2 (.step h1 ne_take ha)
    | either x y =>
      obtain ⟨n, m, h1, h2, h3, h4⟩ := h
      obtain ⟨a1, a2⟩ := walk_list hlook hg hw x 0 n h2.2 (.step h1 ne_step ha)
      obtain ⟨b1, b2⟩ := walk_list hlook hg hw y 0 m h4.2 (.step h3 ne_step ha)
      exact ⟨fun z hz => (List.mem_append.mp hz).elim (a1 z) (b1 z), fun z hz => (List.mem_append.mp (show z ∈ callsList (callsS E d) (canS E d) x ++ callsList (callsS E d) (canS E d) y from hz)).elim (a2 z) (b2 z)⟩
    | when c x y =>
      obtain ⟨n, m, h1, h2, h3, h4⟩ := h
      obtain ⟨a1, a2⟩ := walk_list hlook hg hw x 0 n h2.2 (.step h1 ne_is ha)
      obtain ⟨b1, b2⟩ := walk_list hlook hg hw y 0 m h4.2 (.step h3 ne_not ha)
      exact ⟨fun z hz => (List.mem_append.mp hz).elim (a1 z) (b1 z), fun z hz => (List.mem_append.mp (show z ∈ callsList (callsS E d) (canS E d) x ++ callsList (callsS E d) (canS E d) y from hz)).elim (a2 z) (b2 z)⟩
    | loop body =>
      obtain ⟨n, h1, h2, h3⟩ := h
      exact walk_list hlook hg hw body 0 n h2.2 (.step h1 ne_step ha)
end
end Dp
namespace Dp
open PySem L2
/-! ### the procedures that can end: rounds -/
theorem canS_mono {E E' : List Nat} (h : ∀ w ∈ E, w ∈ E') : ∀ (d : Nat) (s : Stm), canS E d s = true → canS E' d s = true
  | 0, _, _ => rfl
  | d + 1, s, hc => by
    have ih := canS_mono h d
    have ihB : ∀ b : List Stm, b.all (canS E d) = true → b.all (canS E' d) = true := fun b hb => List.all_eq_true.mpr fun s hs => ih s (List.all_eq_true.mp hb s hs)
    cases s with
    | skip => rfl
    | plain w n =>
      have hc' : (if w = .call then decide (n ∈ E) else true) = true := hc
      show (if w = .call then decide (n ∈ E') else true) = true
      by_cases e : w = .call
      · rw [if_pos e] at hc' ⊢
        exact decide_eq_true (h n (of_decide_eq_true hc'))
      · rw [if_neg e]
    | hold k b => exact ihB b hc
    | either a b =>
      rcases Bool.or_eq_true_iff.mp (show (a.all (canS E d) || b.all (canS E d)) = true from hc) with z | z
      · exact Bool.or_eq_true_iff.mpr (.inl (ihB a z))
      · exact Bool.or_eq_true_iff.mpr (.inr (ihB b z))
    | when m a b =>
      rcases Bool.or_eq_true_iff.mp (show (a.all (canS E d) || b.all (canS E d)) = true from hc) with z | z
      · exact Bool.or_eq_true_iff.mpr (.inl (ihB a z))
      · exact Bool.or_eq_true_iff.mpr (.inr (ihB b z))
    | loop b => rfl
theorem canB_mono {E E' : List Nat} (h : ∀ w ∈ E, w ∈ E') {d : Nat} {b : List Stm} (hb : canB E d b = true) : canB E' d b = true := List.all_eq_true.mpr fun s hs => canS_mono h d s (List.all_eq_true.mp hb s hs)
def endRound (d : Nat) (bodies : List (List Stm)) (E : List Nat) : List Nat := (List.range bodies.length).filter fun p => canB E d (bodies.getD p [])
def endN (d : Nat) (bodies : List (List Stm)) : Nat → List Nat
  | 0 => []
  | k + 1 => endRound d bodies (endN d bodies k)
def ending (d : Nat) (bodies : List (List Stm)) : List Nat := endN d bodies bodies.length
theorem mem_round {d : Nat} {bodies : List (List Stm)} {E : List Nat} {p : Nat} : p ∈ endRound d bodies E ↔ p < bodies.length ∧ canB E d (bodies.getD p []) = true := by
  unfold endRound
  rw [List.mem_filter, List.mem_range]
theorem endN_up (d : Nat) (bodies : List (List Stm)) : ∀ k, ∀ w ∈ endN d bodies k, w ∈ endN d bodies (k + 1)
  | 0, _, h => nomatch h
  | k + 1, w, h => by
    have h' := mem_round.mp h
    exact mem_round.mpr ⟨h'.1, canB_mono (endN_up d bodies k) h'.2⟩
theorem filter_len {α : Type} {p q : α → Bool} (h : ∀ a, p a = true → q a = true) : ∀ l : List α, (l.filter p).length ≤ (l.filter q).length ∧ ((l.filter q).length ≤ (l.filter p).length → l.filter p = l.filter q)
  | [] => ⟨Nat.le_refl _, fun _ => rfl⟩
  | a :: l => by
    obtain ⟨h1, h2⟩ := filter_len h l
    by_cases hp : p a = true
    · have hq := h a hp
      rw [List.filter_cons_of_pos hp, List.filter_cons_of_pos hq]
      refine ⟨Nat.succ_le_succ h1, fun z => ?_⟩
      rw [h2 (Nat.le_of_succ_le_succ z)]
    · rw [List.filter_cons_of_neg hp]
      by_cases hq : q a = true
      · rw [List.filter_cons_of_pos hq]
        refine ⟨Nat.le_succ_of_le h1, fun z => ?_⟩
        have z' : (l.filter q).length + 1 ≤ (l.filter p).length := z
        omega
      · rw [List.filter_cons_of_neg hq]
        exact ⟨h1, h2⟩
theorem round_up {d : Nat} {bodies : List (List Stm)} {E E' : List Nat} (h : ∀ w ∈ E, w ∈ E') :
    (endRound d bodies E).length ≤ (endRound d bodies E').length ∧ ((endRound d bodies E').length ≤ (endRound d bodies E).length → endRound d bodies E = endRound d bodies E') :=
  filter_len (fun p hp => canB_mono h hp) _
theorem endN_step (d : Nat) (bodies : List (List Stm)) : ∀ k, endN d bodies k = endN d bodies (k + 1) ∨ k ≤ (endN d bodies k).length
  | 0 => .inr (Nat.zero_le _)
  | k + 1 => by
    have up := round_up (d := d) (bodies := bodies) (endN_up d bodies k)
    by_cases e : endN d bodies (k + 1) = endN d bodies (k + 2)
    · exact .inl e
    · rcases endN_step d bodies k with z | z
      · exact absurd (congrArg (endRound d bodies) z) e
      · refine .inr ?_
        cases k with
        | zero =>
          by_cases z0 : (endN d bodies 1).length = 0
          · have e0 : endN d bodies 1 = endN d bodies 0 := List.eq_nil_of_length_eq_zero z0
            exact absurd (congrArg (endRound d bodies) e0).symm e
          · exact Nat.pos_of_ne_zero z0
        | succ k =>
          have up0 := round_up (d := d) (bodies := bodies) (endN_up d bodies k)
          have ne : ¬ (endN d bodies (k + 2)).length ≤ (endN d bodies (k + 1)).length := fun q => e (congrArg (endRound d bodies) (up0.2 q))
          show k + 2 ≤ (endN d bodies (k + 2)).length
          omega
theorem ending_fix (d : Nat) (bodies : List (List Stm)) : endRound d bodies (ending d bodies) = ending d bodies := by
  rcases endN_step d bodies bodies.length with z | z
  · exact z.symm
  · have up := endN_up d bodies bodies.length
    have h1 : (endN d bodies bodies.length).length ≤ bodies.length := by
      cases hb : bodies.length with
      | zero => exact Nat.le_refl _
      | succ k =>
        have : (endRound d bodies (endN d bodies k)).length ≤ (List.range bodies.length).length := List.length_filter_le _ _
        rw [List.length_range, hb] at this
        exact this
    show endRound d bodies (endN d bodies bodies.length) = endN d bodies bodies.length
    have h2 : (endRound d bodies (endN d bodies bodies.length)).length ≤ bodies.length := by
      have : (endRound d bodies (endN d bodies bodies.length)).length ≤ (List.range bodies.length).length := List.length_filter_le _ _
      rw [List.length_range] at this
      exact this
    cases hb : bodies.length with
    | zero =>
      have e0 : bodies = [] := List.eq_nil_of_length_eq_zero hb
      subst e0
      rfl
    | succ k =>
      have hk : endN d bodies (k + 1) = endRound d bodies (endN d bodies k) := rfl
      rw [hb] at z h1 h2
      have u := round_up (d := d) (bodies := bodies) (endN_up d bodies k)
      rw [hk]
      rw [hk] at z h1 h2
      exact (u.2 (Nat.le_trans h2 z)).symm
theorem mem_ending {d : Nat} {bodies : List (List Stm)} {p : Nat} : p ∈ ending d bodies ↔ p < bodies.length ∧ canB (ending d bodies) d (bodies.getD p []) = true := by
  rw [← mem_round, ending_fix]

/-! ### all procedures -/
def LS.nil : LS := ⟨[], [], fun _ => none, 0, []⟩
def layOne (E : List Nat) (R : Nat → Prop) (d : Nat) (b : List Stm) (p : Nat) (st : LS) : LS :=
  layB E p d [] st.own.length (st.own.length + 1) (R p) b ((st.next p (R p)).next p (R p ∧ canB E d b = true))
def layProcs (E : List Nat) (R : Nat → Prop) (d : Nat) : List (List Stm) → Nat → LS → LS
  | [], _, st => st
  | b :: l, p, st => layProcs E R d l (p + 1) (layOne E R d b p st)
def begins (E : List Nat) (R : Nat → Prop) (d : Nat) : List (List Stm) → Nat → LS → List Nat
  | [], _, _ => []
  | b :: l, p, st => st.own.length :: begins E R d l (p + 1) (layOne E R d b p st)
section
variable {E : List Nat} {R : Nat → Prop} {d : Nat} {sh : Sh}
theorem begins_len : ∀ (l : List (List Stm)) (p : Nat) (st : LS), (begins E R d l p st).length = l.length
  | [], _, _ => rfl
  | b :: l, p, st => congrArg Nat.succ (begins_len l (p + 1) _)
theorem layOne_grow {b : List Stm} {p : Nat} {st : LS} : Grow st (layOne E R d b p st) := (Grow.next _ _ _).trans ((Grow.next _ _ _).trans layB_grow)
theorem layProcs_grow : ∀ (l : List (List Stm)) (p : Nat) (st : LS), Grow st (layProcs E R d l p st)
  | [], _, st => Grow.refl st
  | b :: l, p, st => layOne_grow.trans (layProcs_grow l (p + 1) _)
theorem layOne_pa {b : List Stm} {p : Nat} {st : LS} {k : Nat × List Nat} (h : ¬ Under p [] 0 k) : (layOne E R d b p st).pa k = st.pa k := layBody_pa (layS_pa d) b _ k h
theorem layProcs_pa : ∀ (l : List (List Stm)) (p : Nat) (st : LS) (k : Nat × List Nat), k.1 < p → (layProcs E R d l p st).pa k = st.pa k
  | [], _, _, _, _ => rfl
  | b :: l, p, st, k, h => by
    show (layProcs E R d l (p + 1) (layOne E R d b p st)).pa k = st.pa k
    rw [layProcs_pa l (p + 1) _ k (Nat.lt_succ_of_lt h), layOne_pa fun ⟨_, _, e, _⟩ => by omega]
theorem layOne_wt {b : List Stm} {p : Nat} {st : LS} : (layOne E R d b p st).wt ≤ st.wt + 3 + 9 * szB d b := by
  have h := layBody_wt (can := canS E d) (pr := p) (near := st.own.length) (far := st.own.length + 1) (path := []) (r := R p) (g := szS d) (layS_wt (E := E) (pr := p) d) b ((st.next p (R p)).next p (R p ∧ canB E d b = true))
  rw [wt_next, wt_next] at h
  show (layBody _ _ _ _ _ _ _ _ _).wt ≤ _
  omega
theorem layOne_ok {b : List Stm} {p : Nat} {st : LS} (hb : okB sh d b) (h : LOk sh.P st) : LOk sh.P (layOne E R d b p st) := by
  have e : ((st.next p (R p)).next p (R p ∧ canB E d b = true)).own.length = st.own.length + 2 := by simp [LS.next]
  exact okBody (layS_grow d) (lay_ok d) b _ hb (by rw [e]; omega) (by rw [e]; omega) ((h.next _ _).next _ _)
theorem layProcs_ok : ∀ (l : List (List Stm)) (p : Nat) (st : LS), (∀ b ∈ l, okB sh d b) → LOk sh.P st → LOk sh.P (layProcs E R d l p st)
  | [], _, _, _, h => h
  | b :: l, p, st, hb, h => layProcs_ok l (p + 1) _ (fun c hc => hb c (List.mem_cons_of_mem _ hc)) (layOne_ok (hb b List.mem_cons_self) h)
/-- what is so of each procedure in the whole flow -/
structure ProcAt (E : List Nat) (R : Nat → Prop) (d : Nat) (F : LS) (p x : Nat) (b : List Stm) : Prop where
  laid : LaidBody F.mv (fun q => F.pa (p, q)) (LaidS F.mv (fun q => F.pa (p, q)) d) [] x (x + 1) b
  lab1 : labAt F.lab x ↔ R p
  lab2 : labAt F.lab (x + 1) ↔ R p ∧ canB E d b = true
  lt : x + 1 < F.own.length
theorem procs_at : ∀ (l : List (List Stm)) (p : Nat) (st : LS) (j x : Nat) (b : List Stm), (∀ b ∈ l, okB sh d b) → st.lab.length = st.own.length → l[j]? = some b → (begins E R d l p st)[j]? = some x → ProcAt E R d (layProcs E R d l p st) (p + j) x b
  | [], _, _, _, _, _, _, _, h, _ => by simp at h
  | c :: l, p, st, 0, x, b, hok, hl, h1, h2 => by
    have e1 : c = b := by simpa using h1
    have e2 : st.own.length = x := by simpa [begins] using h2
    subst e1 e2
    have g := layProcs_grow (E := E) (R := R) (d := d) l (p + 1) (layOne E R d c p st)
    have g2 : Grow ((st.next p (R p)).next p (R p ∧ canB E d c = true)) (layOne E R d c p st) := layB_grow
    have l1 : (st.next p (R p)).lab.length = (st.next p (R p)).own.length := (Grow.next st p (R p)).len hl
    have e3 : (st.next p (R p)).own.length = st.own.length + 1 := own_next
    have e4 : ((st.next p (R p)).next p (R p ∧ canB E d c = true)).own.length = st.own.length + 2 := by simp [LS.next]
    refine ⟨laidBody_of (f := layS E p d) (can := canS E d) (r := R p) (ok := okS sh d) (layS_grow d) (layS_pa d) (fun r s q a b st => laidS_of d r s q a b st) c _ (hok c List.mem_cons_self) (fun m hm => g.mv.subset hm) (fun q _ => layProcs_pa l (p + 1) _ _ (Nat.lt_succ_self p)), ?_, ?_, ?_⟩
    · exact lab_next hl (((Grow.next _ p (R p ∧ canB E d c = true)).trans g2).trans g) (List.prefix_refl _)
    · have z := lab_next (labs := (layProcs E R d (c :: l) p st).lab) l1 (g2.trans g) (List.prefix_refl _)
      rw [e3] at z
      exact z
    · have q := own_le (g2.trans g)
      rw [e4] at q
      show st.own.length + 1 < (layProcs E R d l (p + 1) (layOne E R d c p st)).own.length
      omega
  | c :: l, p, st, j + 1, x, b, hok, hl, h1, h2 => by
    have z := procs_at l (p + 1) (layOne E R d c p st) j x b (fun b hb => hok b (List.mem_cons_of_mem _ hb)) (layOne_grow.len hl) (by simpa using h1) (by simpa [begins] using h2)
    have e : p + 1 + j = p + (j + 1) := by omega
    rw [e] at z
    exact z
theorem procs_good {labs : List Prop} : ∀ (l : List (List Stm)) (p : Nat) (st : LS), (layProcs E R d l p st).lab <+: labs → st.lab.length = st.own.length → (∀ j b, l[j]? = some b → R (p + j) → ∀ w ∈ callsB E d b, R w) →
      (∀ m ∈ st.mv, MvGood labs R E m) → ∀ m ∈ (layProcs E R d l p st).mv, MvGood labs R E m
  | [], _, _, _, _, _, h => h
  | c :: l, p, st, hp, hl, hc, h => by
    have hp' : (layProcs E R d l (p + 1) (layOne E R d c p st)).lab <+: labs := hp
    refine procs_good l (p + 1) _ hp (layOne_grow.len hl) (fun j b hb hr => hc (j + 1) b hb (by have e : p + (j + 1) = p + 1 + j := by omega
                                                                                                rw [e]; exact hr)) ?_
    have g := layProcs_grow (E := E) (R := R) (d := d) l (p + 1) (layOne E R d c p st)
    have g2 : Grow ((st.next p (R p)).next p (R p ∧ canB E d c = true)) (layOne E R d c p st) := layB_grow
    have l1 : (st.next p (R p)).lab.length = (st.next p (R p)).own.length := (Grow.next st p (R p)).len hl
    have e3 : (st.next p (R p)).own.length = st.own.length + 1 := own_next
    have n1 := lab_next (labs := labs) hl (((Grow.next _ p (R p ∧ canB E d c = true)).trans g2).trans g) hp'
    have n2 := lab_next (labs := labs) l1 (g2.trans g) hp'
    rw [e3] at n2
    exact goodBody (g := callsS E d) (layS_grow d) (fun r s q a b st => goodS d r s q a b st) c _ ((Grow.next _ p (R p ∧ canB E d c = true)).len l1) (g.lab.trans hp') n1.mp (fun hr hcan => n2.mpr ⟨hr, hcan⟩) (fun hr w hw => hc 0 c rfl hr w hw) h
end

/-! ### the law's rounds over the moves -/
def passes (E : List Nat) (m : Mv) : Bool := !decide (m.kind = "call") || inV m.what (E.map vN)
def relax1 (E L : List Nat) (m : Mv) : List Nat := if (decide (m.near ∈ L) && (!decide (m.far ∈ L) && passes E m)) = true then L ++ [m.far] else L
def relaxR (mv : List Mv) (E L : List Nat) : List Nat := mv.foldl (relax1 E) L
def relaxN (mv : List Mv) (E : List Nat) : Nat → List Nat → List Nat
  | 0, L => L
  | k + 1, L => relaxN mv E k (relaxR mv E L)
theorem inV_vN (w : Nat) (E : List Nat) : inV (vN w) (E.map vN) = decide (w ∈ E) := by
  unfold inV
  induction E with
  | nil => simp
  | cons e r ih =>
    rw [List.map_cons, List.any_cons, ih]
    have h : eqV (vN e) (vN w) = decide (w = e) := by
      show decide ((e : Int) = (w : Int)) = decide (w = e)
      by_cases z : w = e
      · subst z; simp
      · have z' : ¬ ((e : Int) = (w : Int)) := by omega
        simp [z, z']
    rw [h]
    by_cases z : w = e
    · simp [z]
    · simp [z]
theorem relax1_sub {E L : List Nat} {m : Mv} : ∀ x ∈ L, x ∈ relax1 E L m := fun x hx => by
  unfold relax1
  split
  · exact List.mem_append_left _ hx
  · exact hx
theorem relaxR_sub {mv : List Mv} {E : List Nat} : ∀ {L : List Nat}, ∀ x ∈ L, x ∈ relaxR mv E L := by
  induction mv with
  | nil => intro L x hx; exact hx
  | cons m r ih => intro L x hx; exact ih x (relax1_sub x hx)
theorem relaxN_sub {mv : List Mv} {E : List Nat} : ∀ (k : Nat) {L : List Nat}, ∀ x ∈ L, x ∈ relaxN mv E k L
  | 0, _, _, hx => hx
  | k + 1, _, x, hx => relaxN_sub k x (relaxR_sub x hx)
def Closed (mv : List Mv) (E L : List Nat) : Prop := ∀ m ∈ mv, m.near ∈ L → passes E m = true → m.far ∈ L
theorem relax1_fix {E L : List Nat} {m : Mv} (h : m.near ∈ L → passes E m = true → m.far ∈ L) : relax1 E L m = L := by
  unfold relax1
  rw [if_neg]
  intro z
  simp only [Bool.and_eq_true, decide_eq_true_eq, Bool.not_eq_true', decide_eq_false_iff_not] at z
  exact z.2.1 (h z.1 z.2.2)
theorem relaxR_fix {mv : List Mv} {E L : List Nat} (h : Closed mv E L) : relaxR mv E L = L := by
  induction mv with
  | nil => rfl
  | cons m r ih =>
    show relaxR r E (relax1 E L m) = L
    rw [relax1_fix (h m List.mem_cons_self)]
    exact ih fun m hm => h m (List.mem_cons_of_mem _ hm)
theorem relaxN_fix {mv : List Mv} {E L : List Nat} (h : Closed mv E L) : ∀ k, relaxN mv E k L = L
  | 0 => rfl
  | k + 1 => by
    show relaxN mv E k (relaxR mv E L) = L
    rw [relaxR_fix h]
    exact relaxN_fix h k
def cnt (n : Nat) (L : List Nat) : Nat := ((List.range n).filter fun x => decide (x ∈ L)).length
theorem cnt_le (n : Nat) (L : List Nat) : cnt n L ≤ n := by
  have h := List.length_filter_le (fun x => decide (x ∈ L)) (List.range n)
  rw [List.length_range] at h
  exact h
theorem cnt_mono {n : Nat} {L L' : List Nat} (h : ∀ x ∈ L, x ∈ L') : cnt n L ≤ cnt n L' := (filter_len (fun a ha => decide_eq_true (h a (of_decide_eq_true ha))) (List.range n)).1
theorem cnt_lt {n x : Nat} {L L' : List Nat} (h : ∀ x ∈ L, x ∈ L') (hx : x < n) (h1 : ¬ x ∈ L) (h2 : x ∈ L') : cnt n L < cnt n L' := by
  have f := filter_len (p := fun x => decide (x ∈ L)) (q := fun x => decide (x ∈ L')) (fun a ha => decide_eq_true (h a (of_decide_eq_true ha))) (List.range n)
  refine Nat.lt_of_not_le fun z => ?_
  have e := f.2 z
  have m : x ∈ (List.range n).filter fun x => decide (x ∈ L') := List.mem_filter.mpr ⟨List.mem_range.mpr hx, decide_eq_true h2⟩
  rw [← e] at m
  exact h1 (of_decide_eq_true (List.mem_filter.mp m).2)
theorem cnt_full {n : Nat} {L : List Nat} (h : n ≤ cnt n L) : ∀ x, x < n → x ∈ L := fun x hx => by
  have f := filter_len (p := fun x => decide (x ∈ L)) (q := fun _ => true) (fun _ _ => rfl) (List.range n)
  have e := f.2 (by rw [List.filter_eq_self.mpr (fun _ _ => rfl), List.length_range]; exact h)
  have m : x ∈ (List.range n).filter fun _ => true := List.mem_filter.mpr ⟨List.mem_range.mpr hx, rfl⟩
  rw [← e] at m
  exact of_decide_eq_true (List.mem_filter.mp m).2
/-- a round that is not closed adds a place -/
theorem relaxR_more {n : Nat} {E : List Nat} : ∀ {mv : List Mv} {L : List Nat}, (∀ m ∈ mv, m.far < n) → ¬ Closed mv E L → cnt n L < cnt n (relaxR mv E L)
  | [], L, _, h => absurd (fun m hm => nomatch hm) h
  | m :: r, L, hn, h => by
    show cnt n L < cnt n (relaxR r E (relax1 E L m))
    by_cases c : (decide (m.near ∈ L) && (!decide (m.far ∈ L) && passes E m)) = true
    · have e : relax1 E L m = L ++ [m.far] := if_pos c
      simp only [Bool.and_eq_true, decide_eq_true_eq, Bool.not_eq_true', decide_eq_false_iff_not] at c
      refine cnt_lt (fun x hx => relaxR_sub x (relax1_sub x hx)) (hn m List.mem_cons_self) c.2.1 (relaxR_sub _ ?_)
      rw [e]
      exact List.mem_append_right _ List.mem_cons_self
    · have e : relax1 E L m = L := if_neg c
      rw [e]
      refine relaxR_more (fun m hm => hn m (List.mem_cons_of_mem _ hm)) fun z => h fun m' hm' => ?_
      rcases List.mem_cons.mp hm' with rfl | hm'
      · intro h1 h2
        refine Classical.byContradiction fun h3 => c ?_
        simp only [Bool.and_eq_true, decide_eq_true_eq, Bool.not_eq_true', decide_eq_false_iff_not]
        exact ⟨h1, h3, h2⟩
      · exact z m' hm'
theorem relaxN_closed {n : Nat} {mv : List Mv} {E : List Nat} (hn : ∀ m ∈ mv, m.far < n) : ∀ (k : Nat) (L : List Nat), n ≤ k + cnt n L → Closed mv E (relaxN mv E k L)
  | 0, L, h => fun m hm _ _ => cnt_full (L := L) (by omega) _ (hn m hm)
  | k + 1, L, h => by
    by_cases c : Closed mv E L
    · rw [relaxN_fix c]
      exact c
    · have q := relaxR_more hn c
      exact relaxN_closed hn k (relaxR mv E L) (by omega)
theorem relaxR_ind {mv : List Mv} {E : List Nat} {S : Nat → Prop} (hS : ∀ m ∈ mv, passes E m = true → S m.near → S m.far) : ∀ {L : List Nat}, (∀ x ∈ L, S x) → ∀ x ∈ relaxR mv E L, S x := by
  induction mv with
  | nil => intro L h; exact h
  | cons m r ih =>
    intro L h
    refine ih (fun m hm => hS m (List.mem_cons_of_mem _ hm)) ?_
    intro x hx
    unfold relax1 at hx
    split at hx
    · rename_i c
      simp only [Bool.and_eq_true, decide_eq_true_eq] at c
      rcases List.mem_append.mp hx with hx | hx
      · exact h x hx
      · rw [List.mem_singleton.mp hx]
        exact hS m List.mem_cons_self c.2.2 (h _ c.1)
    · exact h x hx
theorem relaxN_ind {mv : List Mv} {E : List Nat} {S : Nat → Prop} (hS : ∀ m ∈ mv, passes E m = true → S m.near → S m.far) : ∀ (k : Nat) {L : List Nat}, (∀ x ∈ L, S x) → ∀ x ∈ relaxN mv E k L, S x
  | 0, _, h => h
  | k + 1, _, h => relaxN_ind hS k (relaxR_ind hS h)

/-! ### THE PLAIN LAW -/
section
variable (sh : Sh) (d : Nat) (bodies : List (List Stm)) (th : List Nat)
abbrev callsOf : Nat → List Nat := fun p => callsB (ending d bodies) d (bodies.getD p [])
abbrev RR : Nat → Prop := Reach (callsOf d bodies) th
abbrev FF : LS := layProcs (ending d bodies) (RR d bodies th) d bodies 0 LS.nil
abbrev bgL : List Nat := begins (ending d bodies) (RR d bodies th) d bodies 0 LS.nil
abbrev bgF : Nat → Nat := fun p => (bgL d bodies th).getD p 0
abbrev enF : Nat → Nat := fun p => bgF d bodies th p + 1
abbrev AL : Nat → Prop := Alive (FF d bodies th).mv (bgF d bodies th) (enF d bodies th) th
abbrev lookF (p : Nat) : List Nat → Nat := fun q => ((FF d bodies th).pa (p, q)).getD 0
end
section
variable {sh : Sh} {d : Nat} {bodies : List (List Stm)} {th : List Nat}
theorem getD_of {α : Type} {l : List α} {i : Nat} {x y : α} (h : l[i]? = some x) : l.getD i y = x := by simp [List.getD, h]
theorem proc_at (hok : ∀ b ∈ bodies, okB sh d b) {p : Nat} (hp : p < bodies.length) : ProcAt (ending d bodies) (RR d bodies th) d (FF d bodies th) p (bgF d bodies th p) (bodies.getD p []) := by
  have e1 : bodies[p]? = some bodies[p] := List.getElem?_eq_getElem hp
  have hl : p < (bgL d bodies th).length := by rw [begins_len]; exact hp
  have e2 : (bgL d bodies th)[p]? = some (bgL d bodies th)[p] := List.getElem?_eq_getElem hl
  have z := procs_at (sh := sh) bodies 0 LS.nil p _ _ hok rfl e1 e2
  rw [Nat.zero_add] at z
  have e3 : bgF d bodies th p = (bgL d bodies th)[p] := getD_of e2
  have e4 : bodies.getD p [] = bodies[p] := getD_of e1
  rw [e3, e4]
  exact z
theorem reach_lt (hok : ∀ b ∈ bodies, okB sh d b) (hP : sh.P = bodies.length) (hth : ∀ t ∈ th, t < bodies.length) (hcalls : ∀ p c, c ∈ callsOf d bodies p → c < bodies.length) {p : Nat} (h : RR d bodies th p) : p < bodies.length := by
  cases h with
  | thread h => exact hth _ h
  | call _ h => exact hcalls _ _ h
theorem calls_lt_list {g : Stm → List Nat} {can : Stm → Bool} {n : Nat} : ∀ {l : List Stm}, (∀ s ∈ l, ∀ c ∈ ownCall s ++ g s, c < n) → ∀ c ∈ callsList g can l, c < n
  | [], _, _, hc => nomatch hc
  | s :: l, h, c, hc => by
    have hc' : c ∈ ownCall s ++ (g s ++ if can s = true then callsList g can l else []) := hc
    rw [← List.append_assoc] at hc'
    rcases List.mem_append.mp hc' with hx | hx
    · exact h s List.mem_cons_self c hx
    · split at hx
      · exact calls_lt_list (fun s hs => h s (List.mem_cons_of_mem _ hs)) c hx
      · exact nomatch hx
theorem calls_lt {E : List Nat} : ∀ (d : Nat) (s : Stm), okS sh d s → ∀ c ∈ ownCall s ++ callsS E d s, c < sh.P
  | 0, _, h, _, _ => h.elim
  | d + 1, s, h, c, hc => by
    have ih := fun s hs => calls_lt (E := E) d s hs
    cases s with
    | skip => exact nomatch hc
    | plain w n =>
      by_cases e : w = .call
      · subst e
        have hc' : c = n := by simpa [ownCall, callsS] using hc
        rw [hc']
        exact h
      · have hc' : ownCall (.plain w n) = [] := by cases w <;> first | rfl | exact absurd rfl e
        rw [hc'] at hc
        exact nomatch hc
    | hold k b => exact calls_lt_list (fun s hs => ih s (h.2 s hs)) c hc
    | either a b => exact (List.mem_append.mp (show c ∈ callsList (callsS E d) (canS E d) a ++ callsList (callsS E d) (canS E d) b from hc)).elim (calls_lt_list (fun s hs => ih s (h.1 s hs)) c) (calls_lt_list (fun s hs => ih s (h.2 s hs)) c)
    | when m a b => exact (List.mem_append.mp (show c ∈ callsList (callsS E d) (canS E d) a ++ callsList (callsS E d) (canS E d) b from hc)).elim (calls_lt_list (fun s hs => ih s (h.2.1 s hs)) c) (calls_lt_list (fun s hs => ih s (h.2.2 s hs)) c)
    | loop b => exact calls_lt_list (fun s hs => ih s (h s hs)) c hc
theorem calls_of_lt (hok : ∀ b ∈ bodies, okB sh d b) (hP : sh.P = bodies.length) : ∀ p c, c ∈ callsOf d bodies p → c < bodies.length := fun p c hc => by
  rw [← hP]
  refine calls_lt_list (fun s hs => calls_lt d s ?_) c hc
  by_cases hp : p < bodies.length
  · have e : bodies.getD p [] = bodies[p] := getD_of (List.getElem?_eq_getElem hp)
    rw [e] at hs
    exact hok _ (List.getElem_mem hp) s hs
  · have e : bodies.getD p [] = [] := by simp [List.getD, List.getElem?_eq_none (Nat.le_of_not_lt hp)]
    rw [e] at hs
    exact nomatch hs
theorem ends_alive (hok : ∀ b ∈ bodies, okB sh d b) : ∀ (k w : Nat), w ∈ endN d bodies k → AL d bodies th (bgF d bodies th w) → AL d bodies th (enF d bodies th w)
  | 0, _, h, _ => nomatch h
  | k + 1, w, h, ha => by
    obtain ⟨h1, h2⟩ := mem_round.mp h
    have P := proc_at (th := th) hok h1
    exact can_body (fun s p a b => can_alive (fun w hw ha => ends_alive hok k w hw ha) d s p a b) _ P.laid ha h2
theorem passes_iff {E : List Nat} {m : Mv} {P n : Nat} (h : MvOk P n m) : passes E m = true ↔ (m.kind = "call" → ∃ w : Nat, m.what = vN w ∧ w ∈ E) := by
  unfold passes
  by_cases e : m.kind = "call"
  · obtain ⟨w, hw, _⟩ := h.call e
    rw [hw, inV_vN, decide_eq_true e]
    constructor
    · intro z _
      exact ⟨w, rfl, of_decide_eq_true z⟩
    · intro z
      obtain ⟨w', e', hE⟩ := z e
      have e2 : w = w' := by
        have := V.int.inj e'
        omega
      rw [e2]
      exact decide_eq_true hE
  · rw [decide_eq_false e]
    exact ⟨fun _ z => absurd z e, fun _ => rfl⟩
theorem plain_law (hok : ∀ b ∈ bodies, okB sh d b) (hP : sh.P = bodies.length) (hth : ∀ t ∈ th, t < bodies.length) {L0 Rl : List Nat} (h1 : ∀ p, p ∈ Rl ↔ RR d bodies th p)
    (h2 : ∀ x ∈ L0, ∃ p ∈ Rl, x = bgF d bodies th p ∨ x ∈ wkB (ending d bodies) (lookF d bodies th p) d [] (bodies.getD p [])) (h3 : ∀ p ∈ Rl, bgF d bodies th p ∈ L0) (x : Nat) :
    x ∈ relaxN (FF d bodies th).mv (ending d bodies) (FF d bodies th).own.length L0 ↔ AL d bodies th x := by
  have hcl := calls_of_lt hok hP
  have lt : ∀ {p}, RR d bodies th p → p < bodies.length := fun h => reach_lt hok hP hth hcl h
  have hLO : LOk sh.P (FF d bodies th) := layProcs_ok bodies 0 LS.nil hok fun m hm => nomatch hm
  have hE : ∀ w ∈ ending d bodies, AL d bodies th (bgF d bodies th w) → AL d bodies th (enF d bodies th w) := fun w => ends_alive hok _ w
  have wk : ∀ {p}, p < bodies.length → AL d bodies th (bgF d bodies th p) → (∀ x ∈ wkB (ending d bodies) (lookF d bodies th p) d [] (bodies.getD p []), AL d bodies th x) ∧ ∀ c ∈ callsOf d bodies p, AL d bodies th (bgF d bodies th c) := fun {p} hp ha =>
    walk_list (paF := fun q => (FF d bodies th).pa (p, q)) (fun q n e => by show ((FF d bodies th).pa (p, q)).getD 0 = n; rw [e]; rfl) (can_alive hE d) (walk_alive (fun q n e => by show ((FF d bodies th).pa (p, q)).getD 0 = n; rw [e]; rfl) hE d) _ 0 _ (proc_at (th := th) hok hp).laid.2 ha
  have bgA : ∀ {p}, RR d bodies th p → AL d bodies th (bgF d bodies th p) := fun {p} h => by
    induction h with
    | thread h => exact .thread h
    | call hp hc ih => exact (wk (lt hp) ih).2 _ hc
  constructor
  · refine fun hx => relaxN_ind (S := AL d bodies th) (fun m hm hpass ha => ?_) _ (fun x hx => ?_) x hx
    · have hp := (passes_iff (hLO m hm)).mp hpass
      by_cases e : m.kind = "call"
      · obtain ⟨w, hw, hwE⟩ := hp e
        exact .back hm e hw ha (hE w hwE (.callee hm e hw ha))
      · exact .step hm e ha
    · obtain ⟨p, hp, q⟩ := h2 x hx
      have hR := (h1 p).mp hp
      rcases q with q | q
      · rw [q]; exact bgA hR
      · exact (wk (lt hR) (bgA hR)).1 x q
  · intro ha
    have good := procs_good (labs := (FF d bodies th).lab) (E := ending d bodies) (R := RR d bodies th) (d := d) bodies 0 LS.nil (List.prefix_refl _) rfl (fun j b hb hr w hw => by
      rw [Nat.zero_add] at hr
      refine Reach.call hr ?_
      show w ∈ callsB (ending d bodies) d (bodies.getD j [])
      rw [getD_of hb]
      exact hw) fun m hm => nomatch hm
    have labB : ∀ {p}, RR d bodies th p → labAt (FF d bodies th).lab (bgF d bodies th p) := fun h => (proc_at (th := th) hok (lt h)).lab1.mpr h
    have labA : ∀ {y}, AL d bodies th y → labAt (FF d bodies th).lab y := fun {y} h => by
      induction h with
      | thread h => exact labB (.thread h)
      | step hm hk _ ih => exact (good _ hm).else_ hk ih
      | @callee m w hm hk hw _ ih =>
        obtain ⟨w', e, q⟩ := (good _ hm).call hk
        have e2 : w = w' := by
          have := V.int.inj (hw.symm.trans e)
          omega
        rw [e2]
        exact labB (q ih).1
      | @back m w hm hk hw _ _ ih1 ih2 =>
        obtain ⟨w', e, q⟩ := (good _ hm).call hk
        have e2 : w = w' := by
          have := V.int.inj (hw.symm.trans e)
          omega
        rw [e2] at ih2
        have hR := (q ih1).1
        have z := (proc_at (th := th) hok (lt hR)).lab2.mp ih2
        exact (q ih1).2 (mem_ending.mpr ⟨lt hR, z.2⟩)
    have inE : ∀ {w : Nat} {m : Mv}, m ∈ (FF d bodies th).mv → m.kind = "call" → m.what = vN w → AL d bodies th m.near → RR d bodies th w := fun {w m} hm hk hw ha => by
      obtain ⟨w', e, q⟩ := (good _ hm).call hk
      have e2 : w = w' := by
        have := V.int.inj (hw.symm.trans e)
        omega
      rw [e2]
      exact (q (labA ha)).1
    have cl := relaxN_closed (E := ending d bodies) (fun m hm => (hLO m hm).far) (FF d bodies th).own.length L0 (Nat.le_add_right _ _)
    induction ha with
    | thread h => exact relaxN_sub _ _ (h3 _ ((h1 _).mpr (.thread h)))
    | step hm hk _ ih => exact cl _ hm ih ((passes_iff (hLO _ hm)).mpr fun e => absurd e hk)
    | callee hm hk hw hn _ => exact relaxN_sub _ _ (h3 _ ((h1 _).mpr (inE hm hk hw hn)))
    | back hm hk hw hn he ih _ =>
      refine cl _ hm ih ((passes_iff (hLO _ hm)).mpr fun _ => ⟨_, hw, ?_⟩)
      have hR := inE hm hk hw hn
      have z := (proc_at (th := th) hok (lt hR)).lab2.mp (labA he)
      exact mem_ending.mpr ⟨lt hR, z.2⟩
end
end Dp
/-! Rules that the layer lacks: enumerate(tuple), dicts with keys (int, (int, ..)), f(k = v). -/
namespace Dp
open PySem PySem.Spec PyProof.Rows L2

/-! ### f(k = v) -/
section
variable {X : Cx} {CX : CXT} {k : Nat} {f : Addr} {fd : FuncData} {ps ks : List Str} {sp : Sp} {E : XK} {x : Str} {p pos : Pos} {kws : List Keyword} {tk : TA} {g : List Value → List Value → List Value} {gV : List V → List V → List V}
theorem pe_callK0 (F : FnOk X.prog X.w X.K X.mg X.base CX k f fd ps sp) (hr : Room k X.A) (hg : Gl X x) (hm : X.mg x = some (.ref f)) (hk : PySem.W.keepIn X.K (.ref f) = true) (hb : KBinds X.K fd ps ks g gV) (hx : Passes CX X E) (hkw : PK X kws tk)
    (hall : (backToKw pos (keywordEach kws X.env)).all (·.1.isSome) = true := by rfl) (hks : (backToKw pos (keywordEach kws X.env)).filterMap (·.1) = ks := by rfl) (hdb : (x == ("__debug__" : Str)) = false := by decide)
    (hpl : ((backTo pos (starEach [] X.env)).any (·.1) || (backToKw pos (keywordEach kws X.env)).any (·.1.isNone)) = false := by rfl) :
    PE X (.Call (.Name x p) [] kws pos) (tCallK sp gV E tNil tk) := by
  refine ⟨fun pins s σ H Q I h => ?_⟩
  refine wpAny_Call_Name_kw (ld_glob I hg hm ?_ hdb)
  refine PySem.W.callWith_KW0 (h₀ := X.base) I.ok.mod.kin hk hall ?_ hpl
  refine thn (hkw.run pos pins s σ H _ I h) fun ws s2 ⟨zs, H2, I2, rz, q2⟩ => ⟨I2.kIn, ?_⟩
  rw [hks]
  exact run_fnk (us := []) (vs := []) F hr hb hx I2 .nil rz q2
end

/-! ### enumerate(tuple) -/
set_option maxHeartbeats 4000000 in
theorem meets_enumerate_B0 {v : Value} {o : Obj} {H : Heap → Prop} (B : Begins v o H) :
    Meets (Builtin.«enumerate.__new__» ⟨[.type "enumerate", v], []⟩) (fun _ R s => H s.heap ∧
      R (.ok (.ret (.ref (s.heap.push o).objs.size))) { s with heap := (s.heap.push o).push { cls := .type "enumerate", data := .fields #[.none, .bool false, .ref s.heap.objs.size, rawInt 0, .none, .none] } }) :=
  .of_wp fun prog w A R s h => by
    obtain ⟨hp, g, d, tk, os⟩ := s; obtain ⟨h1, h⟩ := h
    have hsub := sub_enumerate
    have q1 : ∀ {A' : Around} {E : Value → Shared → Prop} {Q : Value → Shared → Prop}, Q (.ref hp.objs.size) ⟨hp.push o, g, d, tk, os⟩ → wpAny (model prog w) A' (pyIter v) Q E ⟨hp, g, d, tk, os⟩ :=
      fun q => B.iter prog w _ _ ⟨hp, g, d, tk, os⟩ _ h1 q
    wp_walk using q1
    refine wpAny_stack_any fun st => wpAny_pure ?_
    split
    · rename_i c _ _ _ _ _
      cases (c == Value.type "enumerate")
      · wp_walk using q1
        exact ⟨_, rfl, h⟩
      · wp_walk using q1
        exact ⟨_, rfl, h⟩
    · wp_walk using q1
      exact ⟨_, rfl, h⟩
section
variable {prog : Program} {w : World} {A : Around} {E : Value → Shared → Prop} {s : Shared}
theorem enum_begins0 {v : Value} {o : Obj} {H : Heap → Prop} {Q : Value → Shared → Prop} (B : Begins v o H) (h1 : H s.heap)
    (h : ∀ h', IsEnum h' (s.heap.objs.size + 1) s.heap.objs.size 0 .none → h'.get? s.heap.objs.size = some o → h'.objs.size = s.heap.objs.size + 2 →
      (∀ b o, s.heap.get? b = some o → h'.get? b = some o) → Q (.ref (s.heap.objs.size + 1)) { s with heap := h' }) :
    wpAny (model prog w) A (call (.type "enumerate") [v]) Q E s := by
  refine callType_new F.called_enumerate (by decide) (F.typeCall_enumerate_1 _) (F.newCall_enumerate_1 _) (fun obj => F.args_object_init_2 obj _) F.entry_enumerate_new
    (meets_enumerate_B0 B) ⟨h1, ?_⟩
  have hz : (s.heap.push o).objs.size = s.heap.objs.size + 1 := Heap.size_push ..
  show _ ∧ _
  rw [hz]
  have he : IsEnum ((s.heap.push o).push { cls := .type "enumerate", data := .fields #[.none, .bool false, .ref s.heap.objs.size, rawInt 0, .none, .none] }) (s.heap.objs.size + 1) s.heap.objs.size 0 .none := by
    have := Heap.get?_push_size (s.heap.push o) (o := { cls := .type "enumerate", data := .fields #[.none, .bool false, .ref s.heap.objs.size, rawInt 0, .none, .none] }) rfl
    rw [hz] at this; exact this
  refine ⟨⟨_, he, rfl⟩, h _ he (Heap.get?_push_of_some _ (Heap.get?_push_size _ B.free)) (by rw [Heap.size_push, hz]) fun b o x => Heap.get?_push_of_some _ (Heap.get?_push_of_some _ x)⟩
end
def IteT (K : PySem.W.Frag) (a : Addr) : It :=
  ⟨fun i H => ∃ (xs : List V) (x : V), SqT K H a xs ∧ xs[i]? = some x, fun i H v H' => ∃ T x, v = .ref T ∧ H T = none ∧ H' = upd H T (.tup [.int (i : Nat), x]) ∧ ∀ xs, SqT K H a xs → xs[i]? = some x, fun i H => ∃ xs : List V, SqT K H a xs ∧ xs.length ≤ i⟩
theorem turn_enumT {P : Program} {w : World} {K : PySem.W.Frag} {elts : List Expr} {kk : Nat} {tpos : Pos} (a e it : Addr) :
    Turn P w K (.Tuple elts kk tpos) (IteT K a) [e, it] e (fun i h => (∃ old, IsEnum h e it ((i : Nat) : Int) old) ∧ h.IsTupleIter it a i ∧ e ≠ it ∧ a ≠ it ∧ e ≠ a) where
  mem := by simp
  obj := fun i h st b hb => by
    obtain ⟨⟨old, he⟩, ⟨o, ho, hc, hd⟩, _⟩ := st
    have e' : b = e ∨ b = it := by simpa using hb
    rcases e' with z | z
    · rw [z]; exact ⟨_, he, fun v q => nomatch q⟩
    · rw [z]; exact ⟨o, ho, fun v q => by rw [hd] at q; cases q⟩
  keep := fun i h h' st k => let ⟨⟨old, he⟩, hi, hne⟩ := st; ⟨⟨old, k e (by simp) _ he⟩, hi.at fun o q => k it (by simp) o q, hne⟩
  item := by
    intro X hP hw hK hc i pins s σ H E I hf st hg
    subst hP hw hK
    obtain ⟨⟨old, he⟩, hit, hne, hai, hea⟩ := st
    obtain ⟨xs, x, hq, hx⟩ := hg
    obtain ⟨its, rv, p, hz⟩ := I.tuple hq
    obtain ⟨u, hu, ru⟩ := rv.get hx
    have hel : e < s.heap.objs.size := Heap.lt_size he
    have hil : it < s.heap.objs.size := by obtain ⟨_, q, _⟩ := hit; exact Heap.lt_size q
    have hlt : i < its.toArray.size := by
      have := (List.getElem?_eq_some_iff.mp hu).1
      simpa using this
    refine wpAny_pyNext_enum_itemD (Draws.tuple (A := X.A.in1) (show X.A.in1.handled = none from I.ok.hd hc) it a hai its.toArray) he ⟨hit, show s.heap.IsTuple a its.toArray from p⟩ hlt hne (by simp [hne, hea]) fun x' h' tk hP ho hst hT hsz hk => ?_
    have ex : x' = u := by
      have hP' : its.toArray[i]? = some x' := hP
      have hu' : its.toArray[i]? = some u := by simpa using hu
      rw [hP'] at hu'
      exact Option.some.inj hu'
    subst ex
    refine ⟨_, rfl, wpAny_letOwnedTupleGo_enum (s := { s with heap := h', toks := tk + 1 }) ho fun h'' he' sb => ?_⟩
    have hT2 : h''.get? s.heap.objs.size = some { cls := .type "tuple", data := .seq #[.int i tk, x'] } := (sb.2 _ (Nat.ne_of_gt hel)).trans hT
    have new : ObjOk X.prog X.w (upd H s.heap.objs.size (.tup [.int (i : Nat), x])) h'' s.heap.objs.size (.tup [.int (i : Nat), x]) :=
      ⟨by show 2 ≤ sizeLine; decide, [.int i tk, x'], .cons ⟨_, rfl⟩ (.cons ru .nil), ⟨_, hT2, rfl, _, rfl⟩⟩
    have I1 : Inv X pins σ (upd H s.heap.objs.size (.tup [.int (i : Nat), x])) { s with heap := h'', toks := tk + 1 } :=
      I.turnedNew (ch := [e, it]) (fun b ob hb q => (sb.2 b (fun z => hb (by simp [z]))).trans (hk b ob (fun z => hb (by simp [z])) (fun z => hb (by simp [z])) q)) hf (Nat.le_refl _) new
    refine ⟨.ref s.heap.objs.size, _, I1, rfl, ⟨_, x, rfl, I.hok.fresh (Nat.le_refl _), rfl, fun ys hy => by rw [I.tuple_inj hy hq]; exact hx⟩, ⟨⟨x', ?_⟩, hst.1.at fun o q => (sb.2 it (Ne.symm hne)).trans q, hne, hai, hea⟩, fun b hb => ?_⟩
    · have e1 : ((i + 1 : Nat) : Int) = (i : Int) + 1 := by omega
      rw [e1]; exact he'
    · have hb' : b < s.heap.objs.size := by
        have e' : b = e ∨ b = it := by simpa using hb
        rcases e' with z | z
        · rw [z]; exact hel
        · rw [z]; exact hil
      rw [upd_ne (Nat.ne_of_lt hb')]
      exact (hf b hb).1
  done := by
    intro X hP hw hK hc i pins s σ H E I hf st hg
    subst hP hw hK
    obtain ⟨⟨old, he⟩, hit, hne, hai, hea⟩ := st
    obtain ⟨xs, hq, hx⟩ := hg
    obtain ⟨its, rv, p, hz⟩ := I.tuple hq
    obtain ⟨f0, f1, f2, f3, f4, f5⟩ := hf it (by simp)
    have hl := rv.length
    have hT : s.TypeIs (.ref e) "enumerate" := ⟨_, he, rfl⟩
    have hnone : its.toArray[i]? = none := by simp; omega
    unfold pyNext
    refine wpAny_bind (wpAny_attempt (wpAny_callSpecial?_slot (name := Str.ofString "__next__") hT F.slot_enumerate_next
      (wpAny_call_entry F.slot_enumerate_next hT F.entry_enumerate_next ?_ (F.args_enumerate_next_1 _))))
    show wpAny _ _ (field (.ref e) 2 >>= _) _ _ _
    refine wpAny_bind (wpAny_field he rfl (x := .ref it) rfl ?_)
    refine wpAny_bind (wpAny_nextOf_tuple_end (I.ok.hd hc) hit (show s.heap.IsTuple a its.toArray from p) hnone fun h' x he' hx' => ?_)
    obtain ⟨o, ho, hcc⟩ := hx'
    refine wpAny_bind (wpAny_isInstance (T := "StopIteration") (b := true) ⟨o, ho, hcc⟩ isSubtype_stop ?_)
    exact wpAny_pure ⟨rfl, I.turned (t' := s.toks) (fun b o hb q => he' b o hb q) f0 f1 f3 f4 f5⟩
  self := fun A i s Q E st h => let ⟨⟨_, he⟩, _⟩ := st; wpAny_pyIter_enum he h
def iEnumT (K : PySem.W.Frag) (ta : TA) : TI := fun σ H R => ta σ H fun vs H1 => ∃ a xs, vs = [.ref a] ∧ SqT K H1 a xs ∧ R (IteT K a) H1
theorem pi_enumT {X : Cx} {e : Expr} {ta : TA} {p pos tpos : Pos} {elts : List Expr} {kk : Nat} (hg : Gl X "enumerate") (hm : X.mg "enumerate" = none) (ha : PA X [e] ta) (hs : starEach [e] X.env = [(false, eval e X.env)] := by rfl) :
    PI X (.Tuple elts kk tpos) (.Call (.Name "enumerate" p) [e] [] pos) (iEnumT X.K ta) := by
  refine ⟨fun pins s σ H R I h => ?_⟩
  refine Call_ (ld_blt I hg hm boot_enumerate (PyProof.Rows.callWith_type1 (thn (ha.run pos pins s σ H _ I h) fun us s1 ⟨vs, H1, I1, r1, q1⟩ => ?_) hs rfl))
  obtain ⟨a, xs, ex, hq, q⟩ := q1
  subst ex
  cases r1 with
  | cons r rr =>
    cases rr
    cases r
    obtain ⟨its, rv, p', hz⟩ := I1.tuple hq
    have hal : a < s1.heap.objs.size := p'.lt
    refine enum_begins0 (begins_tuple a its.toArray) (show s1.heap.IsTuple a its.toArray from p') fun h' he hit hsz hk => wpAny_pyIter_enum he ?_
    have I2 : Inv X pins σ H1 { s1 with heap := h' } := I1.kept (t' := s1.toks) hk
    refine ⟨s1.heap.objs.size + 1, [s1.heap.objs.size + 1, s1.heap.objs.size], _, _, H1, rfl, I2, turn_enumT a (s1.heap.objs.size + 1) s1.heap.objs.size, ⟨⟨.none, he⟩, ⟨_, hit, rfl, rfl⟩, Nat.succ_ne_self _, Nat.ne_of_lt hal, Nat.ne_of_gt (Nat.lt_succ_of_lt hal)⟩, fun b hb => ?_, q⟩
    have e' : b = s1.heap.objs.size + 1 ∨ b = s1.heap.objs.size := by simpa using hb
    have hle : s1.heap.objs.size ≤ b := by
      rcases e' with z | z
      · rw [z]; exact Nat.le_add_right _ _
      · rw [z]; exact Nat.le_refl _
    exact I1.fpOk hle (I1.hok.fresh hle)
theorem walk_enumT {K : PySem.W.Frag} {a : Addr} {xs : List V} : Walk (IteT K a) xs.length (fun H => SqT K H a xs) (YPair (fun i => some (.int (i : Nat))) (fun i => xs[i]?)) := by
  refine ⟨fun i _ hi q => ⟨xs, xs[i], q, by simp [hi]⟩, fun _ q => ⟨xs, q, Nat.le_refl _⟩, fun i H v H' _ q y => ?_⟩
  obtain ⟨T, x, h1, h2, h3, h4⟩ := y
  exact ⟨T, .int (i : Nat), x, h1, h2, h3, rfl, h4 xs q⟩

/-! ### dicts whose keys are (int, (int, ..)) -/
def keyN (k : Nat × List Nat) : NestedKey := .tup [.num (k.1 : Int), .tup (k.2.map fun j : Nat => NestedKey.num (j : Int))]
theorem keyN_inj {k l : Nat × List Nat} (h : keyN k = keyN l) : k = l := by
  obtain ⟨a, p⟩ := k
  obtain ⟨b, q⟩ := l
  have h1 := NestedKey.tup.inj h
  have h2 := (List.cons.inj h1).1
  have h3 := NestedKey.tup.inj (List.cons.inj (List.cons.inj h1).2).1
  have e1 : a = b := by
    have := NestedKey.num.inj h2
    omega
  have e2 : p = q := by
    clear h h1 h2 e1
    induction p generalizing q with
    | nil =>
      cases q with
      | nil => rfl
      | cons y q => cases h3
    | cons x p ih =>
      cases q with
      | nil => cases h3
      | cons y q =>
        have h4 := List.cons.inj h3
        have h5 := NestedKey.num.inj h4.1
        have : x = y := by omega
        rw [this, ih q h4.2]
  rw [e1, e2]
theorem keyN_depth (k : Nat × List Nat) : (keyN k).depth ≤ 8 := by
  have h : ∀ p : List Nat, NestedKey.depthAll (p.map fun j : Nat => NestedKey.num (j : Int)) = 0 := fun p => by
    induction p with
    | nil => rfl
    | cons x p ih =>
      show max (NestedKey.depth (.num _)) (NestedKey.depthAll _) = 0
      rw [ih]
      rfl
  show NestedKey.depthAll [_, _] + 1 ≤ 8
  show max 0 (max (NestedKey.depthAll (k.2.map fun j : Nat => NestedKey.num (j : Int)) + 1) 0) + 1 ≤ 8
  rw [h]
  decide
section
variable (P : Program) (w : World)
def phiN (a : Addr) (xs : List (NestedKey × Addr × Value)) : Heap → Prop := fun h => ∃ o es ep, h.get? a = some o ∧ o.ExactDict ∧ o.data = .dict es ep ∧ es.toList = xs.map (entryOfKey (nestedKind P w)) ∧ (xs.map (·.1)).Nodup
/-- the dict at a: at most n entries, f tells what stands at a key -/
def NDict (H : Hp) (a : Addr) (f : Nat × List Nat → Option Nat) (n : Nat) : Prop :=
  ∃ xs, H a = some (.ext (phiN P w a xs)) ∧ xs.length ≤ n ∧
    (∀ x ∈ xs, ∃ k t, x.1 = keyN k ∧ H x.2.1 = some (.tup [V.int (k.1 : Nat), .ref t]) ∧ H t = some (.tup (k.2.map fun j : Nat => V.int (j : Int)))) ∧
    ∀ k v, f k = some v → ∃ p t, atKey xs (keyN k) = some p ∧ p.2 = Value.int (v : Nat) t
end
section
variable {P : Program} {w : World} {H H' : Hp} {h : Heap} {a q t : Addr} {f : Nat × List Nat → Option Nat} {n : Nat} {k : Nat × List Nat}
theorem NDict.keep (d : NDict P w H a f n) (e : H' a = H a) (ht : ∀ b ys, H b = some (.tup ys) → H' b = some (.tup ys)) : NDict P w H' a f n := by
  obtain ⟨xs, h1, h2, h3, h4⟩ := d
  refine ⟨xs, e.trans h1, h2, fun x hx => ?_, h4⟩
  obtain ⟨k, t, e1, e2, e3⟩ := h3 x hx
  exact ⟨k, t, e1, ht _ _ e2, ht _ _ e3⟩
theorem NDict.ext (d : NDict P w H a f n) : ∃ φ, H a = some (.ext φ) := let ⟨xs, h1, _⟩ := d; ⟨_, h1⟩
theorem ints_nested {h : Heap} : ∀ {p : List Nat} {us : List Value}, Vals (p.map fun j : Nat => V.int (j : Int)) us → NestedAll h (p.map fun j : Nat => NestedKey.num (j : Int)) us
  | [], _, r => by cases r; exact .nil
  | j :: p, _, r => by
    cases r with
    | cons h1 t =>
      obtain ⟨tk, rfl⟩ := h1
      exact .cons (.int _ _) (ints_nested t)
/-- tracked tuples are a key -/
theorem key_nested (ok : HOk P w H h) (e1 : H q = some (.tup [V.int (k.1 : Nat), .ref t])) (e2 : H t = some (.tup (k.2.map fun j : Nat => V.int (j : Int)))) : (nestedKind P w).is h (keyN k) q := by
  obtain ⟨_, its, r, o, h1, h2, n, h3⟩ := (show ObjOk P w H h q (.tup [V.int (k.1 : Nat), .ref t]) from ok q _ e1)
  obtain ⟨_, its2, r2, o2, g1, g2, n2, g3⟩ := (show ObjOk P w H h t (.tup (k.2.map fun j : Nat => V.int (j : Int))) from ok t _ e2)
  refine ⟨?_, keyN_depth k⟩
  cases r with
  | cons x1 r =>
    cases r with
    | cons x2 r =>
      cases r
      obtain ⟨tk, rfl⟩ := x1
      have x2' : _ = Value.ref t := x2
      subst x2'
      refine NestedIs.tup h1 h2 h3 ?_
      refine .cons (.int _ _) (.cons (NestedIs.tup g1 g2 g3 ?_) .nil)
      simpa using ints_nested r2
theorem nd_dict (ok : HOk P w H h) {xs : List (NestedKey × Addr × Value)} (e : H a = some (.ext (phiN P w a xs)))
    (hk : ∀ x ∈ xs, ∃ k t, x.1 = keyN k ∧ H x.2.1 = some (.tup [V.int (k.1 : Nat), .ref t]) ∧ H t = some (.tup (k.2.map fun j : Nat => V.int (j : Int)))) : h.DictOfH (nestedKind P w) a xs := by
  obtain ⟨⟨o, es, ep, h1, h2, h3, h4, h5⟩, _⟩ := (show ObjOk P w H h a (.ext (phiN P w a xs)) from ok a _ e)
  refine ⟨o, es, ep, h1, h2, h3, h4, fun x hx => ?_, h5⟩
  obtain ⟨k, t, e1, e2, e3⟩ := hk x hx
  rw [e1]
  exact key_nested ok e2 e3
theorem phi_ok {xs : List (NestedKey × Addr × Value)} (d : phiN P w a xs h) : ObjOk P w H h a (.ext (phiN P w a xs)) := by
  obtain ⟨o, es, ep, h1, r⟩ := id d
  refine ⟨d, ⟨o, h1⟩, fun g1 g2 hx hk => ?_⟩
  obtain ⟨o', es', ep', z1, z⟩ := hx
  exact ⟨o', es', ep', hk _ z1, z⟩
end
section
variable {X : Cx} {pins : List (Addr × Obj)} {σ : L2.St} {H : Hp} {s : Shared} {a q t : Addr} {f : Nat × List Nat → Option Nat} {n : Nat} {k : Nat × List Nat} {A : Around} {E : Value → Shared → Prop}
theorem atKey_stored {xs : List (NestedKey × Addr × Value)} {x y : NestedKey} {b : Addr} {v : Value} :
    (x = y → ∃ p, atKey (storedH xs x b v) y = some p ∧ p.2 = v) ∧ (¬ x = y → atKey (storedH xs x b v) y = atKey xs y) := by
  unfold storedH
  by_cases c : (atKey xs x).isSome = true
  · rw [if_pos c]
    constructor
    · intro e
      subst e
      induction xs with
      | nil => simp [atKey] at c
      | cons z xs ih =>
        by_cases e : z.1 = x
        · exact ⟨(z.2.1, v), by simp [atKey, putAt, e], rfl⟩
        · have c' : (atKey xs x).isSome = true := by simpa [atKey, List.find?_cons, e] using c
          obtain ⟨p, h1, h2⟩ := ih c'
          exact ⟨p, by simpa [atKey, List.find?_cons, putAt, e] using h1, h2⟩
    · intro ne
      induction xs with
      | nil => rfl
      | cons z xs ih =>
        by_cases e : z.1 = x
        · have e2 : ¬ z.1 = y := fun q => ne (e.symm.trans q)
          by_cases c' : (atKey xs x).isSome = true
          · have := ih c'
            simpa [atKey, List.find?_cons, putAt, e, ne] using this
          · have hno : xs.map (putAt x v) = xs := by
              have hn : ∀ z ∈ xs, ¬ z.1 = x := fun z hz e' => c' (by
                have : (xs.find? fun u => decide (u.1 = x)).isSome = true := List.find?_isSome.mpr ⟨z, hz, decide_eq_true e'⟩
                unfold atKey
                rw [Option.isSome_map]
                exact this)
              refine (List.map_congr_left fun z hz => ?_).trans (List.map_id xs)
              unfold putAt
              rw [if_neg (hn z hz)]
              rfl
            rw [List.map_cons, hno]
            simp [atKey, List.find?_cons, putAt, e, ne]
        · have c' : (atKey xs x).isSome = true := by simpa [atKey, List.find?_cons, e] using c
          have := ih c'
          by_cases e3 : z.1 = y
          · have hz : putAt x v z = z := if_neg e
            simp [atKey, List.find?_cons, hz, e3]
          · simpa [atKey, List.find?_cons, putAt, e, e3] using this
  · rw [if_neg c]
    have cn : atKey xs x = none := by simpa using c
    constructor
    · intro e
      subst e
      refine ⟨(b, v), ?_, rfl⟩
      unfold atKey at cn ⊢
      rw [Option.map_eq_none_iff] at cn
      rw [List.find?_append, cn]
      simp
    · intro ne
      unfold atKey
      rw [List.find?_append]
      simp [ne]
theorem stored_mem {xs : List (NestedKey × Addr × Value)} {x : NestedKey} {b : Addr} {v : Value} : ∀ z ∈ storedH xs x b v, (z.1 = x ∧ z.2.1 = b) ∨ ∃ y ∈ xs, z.1 = y.1 ∧ z.2.1 = y.2.1 := fun z hz => by
  unfold storedH at hz
  split at hz
  · obtain ⟨y, hy, e⟩ := List.mem_map.mp hz
    refine .inr ⟨y, hy, ?_⟩
    rw [← e]
    unfold putAt
    split <;> exact ⟨rfl, rfl⟩
  · rcases List.mem_append.mp hz with hz | hz
    · exact .inr ⟨z, hz, rfl, rfl⟩
    · rw [List.mem_singleton.mp hz]
      exact .inl ⟨rfl, rfl⟩
theorem stored_len {xs : List (NestedKey × Addr × Value)} {x : NestedKey} {b : Addr} {v : Value} : (storedH xs x b v).length ≤ xs.length + 1 := by
  unfold storedH
  split
  · rw [List.length_map]; omega
  · rw [List.length_append]; exact Nat.le_refl _
theorem n_setItem {v : Nat} {r : Value} {Q : Unit → Shared → Prop} (hu : A.units + 9 < cLine) (I : Inv X pins σ H s) (d : NDict X.prog X.w H a f n) (hn : n < sizeLine) (e1 : H q = some (.tup [V.int (k.1 : Nat), .ref t])) (e2 : H t = some (.tup (k.2.map fun j : Nat => V.int (j : Int))))
    (rv : RelV (V.int (v : Nat)) r) (h : ∀ φ s', NDict X.prog X.w (upd H a (.ext φ)) a (fun l => if l = k then some v else f l) (n + 1) → Inv X pins σ (upd H a (.ext φ)) s' → Q () s') :
    wpAny (model X.prog X.w) A (setItem (.ref a) (.ref q) r) Q E s := by
  obtain ⟨xs, ea, hl, hk, hf⟩ := d
  have ok := I.hok
  have nt : ∀ b ys, H b = some (.tup ys) → b ≠ a := fun b ys e => ne_of e ea (by intro z; cases z)
  refine wpAny_setItem_heap (hsz := Nat.le_trans hl (Nat.le_of_lt hn)) (show A.units + 1 + 8 < cLine by omega) (key_nested ok e1 e2) (nd_dict ok ea hk) fun h' dd hs => ?_
  obtain ⟨o, es, ep, h1, h2, h3, h4, _, h5⟩ := dd
  have ph : phiN X.prog X.w a (storedH xs (keyN k) q r) h' := ⟨o, es, ep, h1, h2, h3, h4, h5⟩
  refine h (phiN X.prog X.w a (storedH xs (keyN k) q r)) _ ⟨_, upd_same, Nat.le_trans stored_len (Nat.succ_le_succ hl), fun x hx => ?_, fun l u hu => ?_⟩ (I.write (x := a) (e := a) (by rw [ea]; exact True.intro) (.inl rfl) (fun b ob hb z => (hs.2 b hb).trans z) ⟨o, h1⟩ (phi_ok ph))
  · rcases stored_mem x hx with ⟨z1, z2⟩ | ⟨y, hy, z1, z2⟩
    · refine ⟨k, t, z1, ?_, ?_⟩
      · rw [z2, upd_ne (nt _ _ e1)]; exact e1
      · rw [upd_ne (nt _ _ e2)]; exact e2
    · obtain ⟨l, t', w1, w2, w3⟩ := hk y hy
      refine ⟨l, t', z1.trans w1, ?_, ?_⟩
      · rw [z2, upd_ne (nt _ _ w2)]; exact w2
      · rw [upd_ne (nt _ _ w3)]; exact w3
  · have hu' : (if l = k then some v else f l) = some u := hu
    by_cases c : l = k
    · rw [if_pos c] at hu'
      cases hu'
      subst c
      obtain ⟨p, w1, w2⟩ := (atKey_stored (xs := xs) (x := keyN l) (y := keyN l) (b := q) (v := r)).1 rfl
      obtain ⟨tk, w3⟩ := rv
      exact ⟨p, tk, w1, w2.trans w3⟩
    · rw [if_neg c] at hu'
      obtain ⟨p, tk, w1, w2⟩ := hf l u hu'
      refine ⟨p, tk, ?_, w2⟩
      rw [(atKey_stored (xs := xs) (x := keyN k) (y := keyN l) (b := q) (v := r)).2 fun z => c (keyN_inj z).symm]
      exact w1
theorem n_getItem {v : Nat} {Q : Value → Shared → Prop} (hu : A.units + 9 < cLine) (I : Inv X pins σ H s) (d : NDict X.prog X.w H a f n) (e1 : H q = some (.tup [V.int (k.1 : Nat), .ref t])) (e2 : H t = some (.tup (k.2.map fun j : Nat => V.int (j : Int))))
    (hv : f k = some v) (h : ∀ tk s', Inv X pins σ H s' → Q (.int (v : Nat) tk) s') : wpAny (model X.prog X.w) A (getItem (.ref a) (.ref q)) Q E s := by
  obtain ⟨xs, ea, hl, hk, hf⟩ := d
  obtain ⟨p, tk, w1, w2⟩ := hf k v hv
  refine wpAny_getItem_heap (show A.units + 1 + 8 < cLine by omega) (key_nested I.hok e1 e2) (nd_dict I.hok ea hk) w1 ?_
  rw [w2]
  exact h tk _ (I.tok _)
theorem n_typeIs (I : Inv X pins σ H s) (d : NDict X.prog X.w H a f n) : s.TypeIs (.ref a) "dict" := by
  obtain ⟨xs, ea, hl, hk, hf⟩ := d
  exact (nd_dict I.hok ea hk).typeIs
end
def tDNewN (P : Program) (w : World) : TE := fun _ H Q => ∀ p φ, H p = none → NDict P w (upd H p (.ext φ)) p (fun _ => none) 0 → Q (.ref p) (upd H p (.ext φ))
def sNPut (P : Program) (w : World) (td ty tv : TE) : TS := fun D σ H => tv σ H fun v H1 => td σ H1 fun x H2 => ty σ H2 fun y H3 => ∃ (a q t : Addr) (k : Nat × List Nat) (m : Nat) (f : Nat × List Nat → Option Nat) (n : Nat),
  x = .ref a ∧ y = .ref q ∧ v = V.int (m : Nat) ∧ NDict P w H3 a f n ∧ n < sizeLine ∧ H3 q = some (.tup [V.int (k.1 : Nat), .ref t]) ∧ H3 t = some (.tup (k.2.map fun j : Nat => V.int (j : Int))) ∧
  ∀ φ, NDict P w (upd H3 a (.ext φ)) a (fun l => if l = k then some m else f l) (n + 1) → D.nx σ (upd H3 a (.ext φ))
def tNGet (P : Program) (w : World) (td ty : TE) : TE := fun σ H Q => td σ H fun x H2 => ty σ H2 fun y H3 => ∃ (a q t : Addr) (k : Nat × List Nat) (m : Nat) (f : Nat × List Nat → Option Nat) (n : Nat),
  x = .ref a ∧ y = .ref q ∧ NDict P w H3 a f n ∧ H3 q = some (.tup [V.int (k.1 : Nat), .ref t]) ∧ H3 t = some (.tup (k.2.map fun j : Nat => V.int (j : Int))) ∧ f k = some m ∧ Q (V.int (m : Nat)) H3
section
variable {X : Cx} {o i e value : Expr} {pos pos' tpos : Pos} {td ty tv : TE}
theorem pe_dnewN : PE X (.Dict [] [] pos) (tDNewN X.prog X.w) := ⟨fun pins s σ H Q I h => by
  have ph : phiN X.prog X.w s.heap.objs.size [] (s.heap.push { cls := .type "dict", data := .dict #[] }) := ⟨_, #[], 0, Heap.get?_push_size _ rfl, ⟨rfl, rfl, rfl⟩, rfl, rfl, List.nodup_nil⟩
  refine wpAny_Dict_empty ⟨.ref s.heap.objs.size, _, I.laid (a := s.heap.objs.size) (o := .ext (phiN X.prog X.w s.heap.objs.size [])) (t' := s.toks) (fun _ _ q => Heap.get?_push_of_some _ q) (Nat.le_refl _) (phi_ok ph), rfl, h _ _ (I.hok.fresh (Nat.le_refl _)) ⟨[], upd_same, Nat.le_refl _, fun x hx => (nomatch hx), fun k v z => (nomatch z)⟩⟩⟩
theorem ps_nput (hu : X.A.units + 9 < cLine) (ho : PE X o td) (hi : PE X i ty) (hv : PE X value tv) (hs : swapsWith value (some (.Subscript o i pos')) pos.line X.env = pure false) :
    PS X (.Assign [.Subscript o i pos'] value pos) (sNPut X.prog X.w td ty tv) := by
  refine ⟨fun pins s σ H D I h => ?_⟩
  refine wpAny_Assign_Subscript (thn (hv.run pins s σ H _ I h) fun r s1 ⟨v, H1, I1, rv, q1⟩ => thn (ho.run pins s1 σ H1 _ I1 q1) fun u s2 ⟨x, H2, I2, rx, q2⟩ => thn (hi.run pins s2 σ H2 _ I2 q2) fun iv s3 ⟨y, H3, I3, ry, a, q, t, k, m, f, n, ex, ey, ev, d, hn, e1, e2, q3⟩ => ?_) hs
  subst ex ey ev
  obtain rfl : u = Value.ref a := rx
  obtain rfl : iv = Value.ref q := ry
  exact n_setItem hu I3 d hn e1 e2 rv fun φ s4 d4 I4 => ⟨σ, _, I4, q3 φ d4⟩
theorem pe_nget (hu : X.A.units + 9 < cLine) (ho : PE X o td) (hi : PE X i ty) (hs : NoSl i) : PE X (.Subscript o i pos) (tNGet X.prog X.w td ty) := by
  refine ⟨fun pins s σ H Q I h => ?_⟩
  refine subD_of PySem.F.slot_dict_getitem.lookup hs (thn (ho.run pins s σ H _ I h) fun u s1 ⟨x, H1, I1, rx, q1⟩ => thn (hi.run pins s1 σ H1 _ I1 q1) fun iv s2 ⟨y, H2, I2, ry, a, q, t, k, m, f, n, ex, ey, d, e1, e2, hv, q2⟩ => ?_)
  subst ex ey
  obtain rfl : u = Value.ref a := rx
  obtain rfl : iv = Value.ref q := ry
  exact ⟨n_typeIs I2 d, n_getItem hu I2 d e1 e2 hv fun tk s3 I3 => ⟨V.int (m : Nat), H2, I3, ⟨tk, rfl⟩, q2⟩⟩
end
end Dp
namespace Dp
open PySem L2
open C8 (Cal Met Mak pe_c pe_mk pe_mt pe_mt0 pe_gc InsC call_isC)
/-! ### the text by places -/
def top (i : Nat) : Stmt := PySem.Challenge.pw_cutruns_k24_whole_dead_places_by_stateme.main.body.getD i (.Pass ⟨0, 0, 0, 0⟩)

/-! ### builtins -/
theorem bt_len : bootBuiltins "len" = some (.builtin "len") := by decide +kernel
theorem bt_isinstance : bootBuiltins "isinstance" = some (.builtin "isinstance") := by decide +kernel
theorem bt_abs : bootBuiltins "abs" = some (.builtin "abs") := by decide +kernel
theorem bt_max : bootBuiltins "max" = some (.builtin "max") := by decide +kernel
theorem bt_divmod : bootBuiltins "divmod" = some (.builtin "divmod") := by decide +kernel
theorem bt_all : bootBuiltins "all" = some (.builtin "all") := by decide +kernel
theorem bt_sum : bootBuiltins "sum" = some (.builtin "sum") := by decide +kernel
theorem bt_int : bootBuiltins "int" = some (.type "int") := by decide +kernel
theorem bt_bool : bootBuiltins "bool" = some (.type "bool") := by decide +kernel
theorem bt_str : bootBuiltins "str" = some (.type "str") := by decide +kernel
theorem bt_list : bootBuiltins "list" = some (.type "list") := by decide +kernel
theorem bt_tuple : bootBuiltins "tuple" = some (.type "tuple") := by decide +kernel

/-! ### heaps: what stays -/
def But (S : List Addr) (H H' : Hp) : Prop := ∀ b o, H b = some o → b ∉ S → H' b = some o
def Tups (H H' : Hp) : Prop := ∀ b xs, H b = some (.tup xs) → H' b = some (.tup xs)
theorem _root_.L2.Same.tups {H H' : Hp} (s : Same H H') : Tups H H' := fun b xs e => s b _ e
theorem _root_.L2.Same.but {H H' : Hp} (s : Same H H') (S : List Addr) : But S H H' := fun b o e _ => s b o e
theorem But.refl (S : List Addr) (H : Hp) : But S H H := fun _ _ e _ => e
theorem But.trans {S : List Addr} {H H1 H2 : Hp} (a : But S H H1) (b : But S H1 H2) : But S H H2 := fun c o e h => b c o (a c o e h) h
theorem But.mono {S T : List Addr} {H H1 : Hp} (a : But S H H1) (h : ∀ b ∈ S, b ∈ T) : But T H H1 := fun c o e hc => a c o e fun z => hc (h c z)
theorem But.none {H H1 : Hp} (a : But [] H H1) : Same H H1 := fun b o e => a b o e (by simp)
theorem Tups.refl (H : Hp) : Tups H H := fun _ _ e => e
theorem Tups.trans {H H1 H2 : Hp} (a : Tups H H1) (b : Tups H1 H2) : Tups H H2 := fun c o e => b c o (a c o e)
theorem same_new {H : Hp} {p : Addr} (h : H p = none) (o : HO) : Same H (upd H p o) := fun b u q => by rw [upd_ne (ne_of_none q h)]; exact q
theorem but_upd {S : List Addr} {H : Hp} {p : Addr} (h : p ∈ S) (o : HO) : But S H (upd H p o) := fun b u q hb => by rw [upd_ne fun z => hb (by rw [z]; exact h)]; exact q
theorem tups_upd {H : Hp} {p : Addr} {o : HO} (h : ∀ xs, H p ≠ some (.tup xs)) : Tups H (upd H p o) := fun b xs e => by rw [upd_ne fun z => h xs (by rw [← z]; exact e)]; exact e
theorem tups_lst {H : Hp} {p : Addr} {o : HO} {ys : List V} (h : H p = some (.lst ys)) : Tups H (upd H p o) := tups_upd fun xs z => by rw [h] at z; cases z
theorem _root_.L2.Same.sqt {K : PySem.W.Frag} {H H' : Hp} {a : Addr} {xs : List V} (e : Same H H') (h : SqT K H a xs) : SqT K H' a xs := by
  rcases h with (h | ⟨o, h⟩) | h
  · exact .inl (.inl (e _ _ h))
  · exact .inl (.inr ⟨o, e _ _ h⟩)
  · exact .inr h

/-! ### statements in the heap -/
def BAg (f : V → Stm → Prop) (H : Hp) (p : Addr) (b : List Stm) : Prop := ∃ xs, H p = some (.tup xs) ∧ Paired f xs b
def SA (H : Hp) : Nat → V → Stm → Prop
  | 0, _, _ => False
  | d + 1, v, s => ∃ a, v = .ref a ∧ match s with
    | .skip => H a = some (.tup [.str "skip"])
    | .plain w n => H a = some (.tup [.str w.str, vN n])
    | .hold k b => ∃ p, H a = some (.tup [.str "hold", vN k, .ref p]) ∧ BAg (SA H d) H p b
    | .either x y => ∃ p q, H a = some (.tup [.str "either", .ref p, .ref q]) ∧ BAg (SA H d) H p x ∧ BAg (SA H d) H q y
    | .when m x y => ∃ p q, H a = some (.tup [.str "when", vN m, .ref p, .ref q]) ∧ BAg (SA H d) H p x ∧ BAg (SA H d) H q y
    | .loop b => ∃ p, H a = some (.tup [.str "loop", .ref p]) ∧ BAg (SA H d) H p b
abbrev BA (H : Hp) (d : Nat) (p : Addr) (b : List Stm) : Prop := BAg (SA H d) H p b
theorem paired_mono {α β : Type} {F G : α → β → Prop} (h : ∀ a b, F a b → G a b) : ∀ {l : List α} {m : List β}, Paired F l m → Paired G l m
  | _, _, .nil => .nil
  | _, _, .cons r t => .cons (h _ _ r) (paired_mono h t)
theorem SA_mono {H H' : Hp} (ht : Tups H H') : ∀ (d : Nat) {v : V} {s : Stm}, SA H d v s → SA H' d v s
  | 0, _, _, h => h
  | d + 1, v, s, h => by
    obtain ⟨a, rfl, h⟩ := h
    refine ⟨a, rfl, ?_⟩
    have ih : ∀ {p : Addr} {b : List Stm}, BAg (SA H d) H p b → BAg (SA H' d) H' p b := fun {p b} ⟨xs, h1, h2⟩ => ⟨xs, ht _ _ h1, paired_mono (fun a b => SA_mono ht d) h2⟩
    cases s with
    | skip => exact ht _ _ h
    | plain w n => exact ht _ _ h
    | hold k b => obtain ⟨p, h1, h2⟩ := h; exact ⟨p, ht _ _ h1, ih h2⟩
    | either x y => obtain ⟨p, q, h1, h2, h3⟩ := h; exact ⟨p, q, ht _ _ h1, ih h2, ih h3⟩
    | when m x y => obtain ⟨p, q, h1, h2, h3⟩ := h; exact ⟨p, q, ht _ _ h1, ih h2, ih h3⟩
    | loop b => obtain ⟨p, h1, h2⟩ := h; exact ⟨p, ht _ _ h1, ih h2⟩
theorem BA_mono {H H' : Hp} (ht : Tups H H') {d : Nat} {p : Addr} {b : List Stm} (h : BA H d p b) : BA H' d p b := let ⟨xs, h1, h2⟩ := h; ⟨xs, ht _ _ h1, paired_mono (fun _ _ => SA_mono ht d) h2⟩
theorem SA_up {H : Hp} : ∀ {d e : Nat} {v : V} {s : Stm}, d ≤ e → SA H d v s → SA H e v s
  | 0, _, _, _, _, h => h.elim
  | d + 1, 0, _, _, h, _ => absurd h (Nat.not_succ_le_zero d)
  | d + 1, e + 1, v, s, hde, h => by
    obtain ⟨a, rfl, h⟩ := h
    refine ⟨a, rfl, ?_⟩
    have hd := Nat.le_of_succ_le_succ hde
    have ih : ∀ {p : Addr} {b : List Stm}, BAg (SA H d) H p b → BAg (SA H e) H p b := fun {p b} ⟨xs, h1, h2⟩ => ⟨xs, h1, paired_mono (fun a b => SA_up hd) h2⟩
    cases s with
    | skip => exact h
    | plain w n => exact h
    | hold k b => obtain ⟨p, h1, h2⟩ := h; exact ⟨p, h1, ih h2⟩
    | either x y => obtain ⟨p, q, h1, h2, h3⟩ := h; exact ⟨p, q, h1, ih h2, ih h3⟩
    | when m x y => obtain ⟨p, q, h1, h2, h3⟩ := h; exact ⟨p, q, h1, ih h2, ih h3⟩
    | loop b => obtain ⟨p, h1, h2⟩ := h; exact ⟨p, h1, ih h2⟩
theorem paired_len {α β : Type} {F : α → β → Prop} : ∀ {l : List α} {m : List β}, Paired F l m → l.length = m.length
  | _, _, .nil => rfl
  | _, _, .cons _ t => congrArg Nat.succ (paired_len t)
theorem paired_at {α β : Type} {F : α → β → Prop} : ∀ {l : List α} {m : List β} {i : Nat} {x : α}, Paired F l m → l[i]? = some x → ∃ y, m[i]? = some y ∧ F x y
  | _, _, _, _, .nil, e => by simp at e
  | _, _, 0, _, .cons r _, e => by
    simp at e
    subst e
    exact ⟨_, rfl, r⟩
  | _, _, i + 1, x, .cons _ t, e => by
    obtain ⟨y, h1, h2⟩ := paired_at (i := i) t (by simpa using e)
    exact ⟨y, by simpa using h1, h2⟩
theorem SA_ref {H : Hp} {d : Nat} {v : V} {s : Stm} (h : SA H d v s) : ∃ a, v = .ref a := by
  cases d with
  | zero => exact h.elim
  | succ d => obtain ⟨a, e, _⟩ := h; exact ⟨a, e⟩

/-! ### what the top has made -/
structure Txt (K : PySem.W.Frag) (w : World) (mg : Str → Option Value) (kd pw CP CF : Addr) : Prop where
  n_len : mg "len" = none
  n_isinstance : mg "isinstance" = none
  n_abs : mg "abs" = none
  n_max : mg "max" = none
  n_divmod : mg "divmod" = none
  n_all : mg "all" = none
  n_sum : mg "sum" = none
  n_int : mg "int" = none
  n_bool : mg "bool" = none
  n_str : mg "str" = none
  n_list : mg "list" = none
  n_tuple : mg "tuple" = none
  n_range : mg "range" = none
  n_enumerate : mg "enumerate" = none
  c_MOST_DEEP : ∃ u, mg "MOST_DEEP" = some u ∧ RelV (.int 6) u
  c_MOST_LABEL : ∃ u, mg "MOST_LABEL" = some u ∧ RelV (.int 9) u
  c_MOST_LOCKS : ∃ u, mg "MOST_LOCKS" = some u ∧ RelV (.int 4) u
  c_MOST_CELLS : ∃ u, mg "MOST_CELLS" = some u ∧ RelV (.int 4) u
  c_MOST_MODES : ∃ u, mg "MOST_MODES" = some u ∧ RelV (.int 4) u
  c_MOST_PROCEDURES : ∃ u, mg "MOST_PROCEDURES" = some u ∧ RelV (.int 6) u
  c_MOST_THREADS : ∃ u, mg "MOST_THREADS" = some u ∧ RelV (.int 4) u
  c_MOST_STATEMENTS : ∃ u, mg "MOST_STATEMENTS" = some u ∧ RelV (.int 60) u
  c_MOST_PLACES : ∃ u, mg "MOST_PLACES" = some u ∧ RelV (.int 160) u
  c_KINDS : ∃ u, mg "KINDS" = some u ∧ RelV (.ref kd) u
  c_PLAIN_WORDS : ∃ u, mg "PLAIN_WORDS" = some u ∧ RelV (.ref pw) u
  c_Program : ∃ u, mg "Program" = some u ∧ RelV (.ref CP) u
  c_Flow : ∃ u, mg "Flow" = some u ∧ RelV (.ref CF) u
  words : ∀ H, SqT K H pw [.str "touch", .str "write", .str "mark", .str "claim", .str "set", .str "call"]
  kinds : ∃ es n, KDict K w kd es n
  kind : ∀ x b m, (x, b, m) ∈ ([("skip", .non, 0), ("touch", .int 1, 0), ("write", .int 1, 0), ("mark", .int 4, 0), ("set", .int 2, 0), ("claim", .int 2, 0), ("call", .int 3, 0), ("hold", .int 0, 1), ("either", .non, 2), ("when", .int 2, 2), ("loop", .non, 1)] : List (Str × V × Int)) →
    ∃ t : Addr, (∃ u, PySem.W.nsIn K kd x = some (some u) ∧ RelV (.ref t) u) ∧ ∀ H, SqT K H t [b, .int m]
  isP : InsC K CP
  isF : Cls K CF
  nP : ∀ x, x ∈ (["own_locks", "own_cells", "own_modes", "own_bodies", "own_threads"] : List Str) → NoAttr K CP x
  nF : ∀ x, x ∈ (["own_moves", "own_procedures", "own_begins", "own_ends", "own_paths", "own_from"] : List Str) → NoAttr K CF x

/-- a def of the text under its name -/
structure GFun (K : PySem.W.Frag) (mg : Str → Option Value) (x : Str) (st : Stmt) (f : Addr) (fd : FuncData) : Prop where
  fn : L2.Fun K x x st f fd
  mgf : mg x = some (.ref f)
theorem cal_of {P : Program} {w : World} {K : PySem.W.Frag} {mg : Str → Option Value} {base : Heap} {x : Str} {st : Stmt} {f : Addr} {fd : FuncData} {ps : List Str} {k : Nat} {sp : Sp} (F : GFun K mg x st f fd) (b : Binds K fd ps []) (ok : FnOk P w K mg base CX0 k f fd ps sp) : Cal P w K mg base k x sp [] :=
  ⟨f, fd, ps, [], ok, F.mgf, F.fn.kp, b, .nil⟩
theorem cal_imp {P : Program} {w : World} {K : PySem.W.Frag} {mg : Str → Option Value} {base : Heap} {x : Str} {k j : Nat} {sp sp' : Sp} {dvs : List V} (c : Cal P w K mg base k x sp dvs) (h : ∀ vs H Q E, sp' vs H Q E → sp vs H Q E) (hk : k ≤ j) : Cal P w K mg base j x sp' dvs := by
  obtain ⟨f, fd, ps, ds, ok, r⟩ := c.ex
  exact ⟨f, fd, ps, ds, (ok.imp h).mono hk, r⟩

section
variable {P : Program} {w : World} {K : PySem.W.Frag} {mg : Str → Option Value} {base : Heap} {kd pw CP CF : Addr} {f : Addr} {fd : FuncData}
/-! ### is_integer, is_count, is_list -/
def spIsInteger : Sp := fun vs H Q _ => ∃ i : Int, vs = [.int i] ∧ Q (.bl true) H
def spIsCount : Sp := fun vs H Q _ => ∃ i : Int, vs = [.int i] ∧ Q (.bl (decide (0 ≤ i))) H
def spIsList (K : PySem.W.Frag) : Sp := fun vs H Q _ => ∃ (a : Addr) (xs : List V), vs = [.ref a] ∧ H a = some (.lst xs) ∧ ∀ H', Same H H' → Q (.bl true) H'
abbrev st_is_integer : Stmt := top 12
theorem sc_is_integer : FnScope ["value"] ["value"] (defScope st_is_integer) := ⟨rfl, rfl, rfl, by decide +kernel, rfl, by decide +kernel, by decide +kernel⟩
theorem ok_is_integer (F : GFun K mg "is_integer" st_is_integer f fd) (T : Txt K w mg kd pw CP CF) : Cal P w K mg base 1 "is_integer" spIsInteger [] := by
  have b : Binds K fd ["value"] [] := F.fn.binds fun _ _ _ _ _ _ us hl => match us, hl with | [_], _ => rfl
  refine cal_of F b (F.fn.ok sc_is_integer (fun vs H Q E h => ?_) (fun cdv A outer s H vs Q E hr h => ?_))
  · obtain ⟨i, rfl, _⟩ := h
    rfl
  obtain ⟨i, rfl, q⟩ := h
  refine ⟨_, (pss_one (ps_ret (pe_and (pe_callB call_isi (by rfl) T.n_isinstance bt_isinstance (pa_cons (pv 0) (pa_cons (pe_bltn (v := .ty "int") (by rfl) T.n_int bt_int rfl) pa_nil))) (pe_one (pe_not (pe_callB call_isi (by rfl) T.n_isinstance bt_isinstance (pa_cons (pv 0) (pa_cons (pe_bltn (v := .ty "bool") (by rfl) T.n_bool bt_bool rfl) pa_nil)))))))), ?_⟩
  refine ⟨_, rfl, _, _, _, _, true, rfl, .ty "int", .base (.int i), kit_ty (by decide +kernel), _, rfl, iteT ?_⟩
  refine ⟨_, rfl, _, _, _, _, false, rfl, .ty "bool", .base (.int i), kit_ty (by decide +kernel), _, rfl, ?_⟩
  exact q
abbrev st_is_count : Stmt := top 13
theorem sc_is_count : FnScope ["value"] ["value"] (defScope st_is_count) := ⟨rfl, rfl, rfl, by decide +kernel, rfl, by decide +kernel, by decide +kernel⟩
theorem ok_is_count (F : GFun K mg "is_count" st_is_count f fd) (c_is_integer : Cal P w K mg base 1 "is_integer" spIsInteger []) : Cal P w K mg base 2 "is_count" spIsCount [] := by
  have b : Binds K fd ["value"] [] := F.fn.binds fun _ _ _ _ _ _ us hl => match us, hl with | [_], _ => rfl
  refine cal_of F b (F.fn.ok sc_is_count (fun vs H Q E h => ?_) (fun cdv A outer s H vs Q E hr h => ?_))
  · obtain ⟨i, rfl, _⟩ := h
    rfl
  obtain ⟨i, rfl, q⟩ := h
  refine ⟨_, (pss_one (ps_ret (pe_and (pe_c c_is_integer hr (by omega) (by rfl) (pa_cons (pv 0) pa_nil)) (pe_one (pe_cmpR op_ge (pv 0) pe_int (nomark _)))))), ?_⟩
  refine ⟨_, rfl, i, rfl, _, rfl, iteT ?_⟩
  exact ⟨_, rfl, _, _, rfl, rfl, q⟩
abbrev st_is_list : Stmt := top 14
theorem sc_is_list : FnScope ["value"] ["value"] (defScope st_is_list) := ⟨rfl, rfl, rfl, by decide +kernel, rfl, by decide +kernel, by decide +kernel⟩
theorem ok_is_list (F : GFun K mg "is_list" st_is_list f fd) (T : Txt K w mg kd pw CP CF) : Cal P w K mg base 1 "is_list" (spIsList K) [] := by
  have b : Binds K fd ["value"] [] := F.fn.binds fun _ _ _ _ _ _ us hl => match us, hl with | [_], _ => rfl
  refine cal_of F b (F.fn.ok sc_is_list (fun vs H Q E h => ?_) (fun cdv A outer s H vs Q E hr h => ?_))
  · obtain ⟨a, xs, rfl, _⟩ := h
    rfl
  obtain ⟨a, xs, rfl, hS, q⟩ := h
  refine ⟨_, (pss_one (ps_ret (pe_callB call_isiT (by rfl) T.n_isinstance bt_isinstance (pa_cons (pv 0) (pa_cons (pe_tup (pa_cons (pe_bltn (v := .ty "list") (by rfl) T.n_list bt_list rfl) (pa_cons (pe_bltn (v := .ty "tuple") (by rfl) T.n_tuple bt_tuple rfl) pa_nil))) pa_nil))))), ?_⟩
  refine ⟨_, rfl, by decide, fun p hp => ?_⟩
  refine ⟨_, _, _, _, _, true, rfl, upd_same, .cons (.ty "list") (.cons (.ty "tuple") .nil), .base (.lst ((same_new hp _) _ _ hS)), rfl, q _ (same_new hp _)⟩
end
end Dp
namespace Dp
open PySem L2
open C8 (Cal Met Mak pe_c pe_mk pe_mt pe_mt0 pe_gc InsC call_isC)
/-! ### a statement, seen as a tuple -/
def word : Stm → Str
  | .skip => "skip" | .plain w _ => w.str | .hold _ _ => "hold" | .either _ _ => "either" | .when _ _ _ => "when" | .loop _ => "loop"
def bIx : Stm → Option Nat
  | .skip => none | .plain .touch _ => some 1 | .plain .write _ => some 1 | .plain .mark _ => some 4 | .plain .set _ => some 2 | .plain .claim _ => some 2 | .plain .call _ => some 3
  | .hold _ _ => some 0 | .either _ _ => none | .when _ _ _ => some 2 | .loop _ => none
def num : Stm → Nat
  | .plain _ n => n | .hold k _ => k | .when m _ _ => m | _ => 0
def bodiesOf : Stm → List (List Stm)
  | .hold _ b => [b] | .either a b => [a, b] | .when _ a b => [a, b] | .loop b => [b] | _ => []
def bound (s : Stm) : V := match bIx s with | none => .non | some i => .int (i : Int)
def headOf (s : Stm) : List V := match bIx s with | none => [] | some _ => [vN (num s)]
def shL (sh : Sh) : List Nat := [sh.L, sh.C, sh.M, sh.P, 10]
theorem many_le (s : Stm) : (bodiesOf s).length ≤ 2 := by cases s <;> simp [bodiesOf]
theorem okS_num {sh : Sh} {d : Nat} {s : Stm} {i : Nat} (h : okS sh (d + 1) s) (hi : bIx s = some i) : ∃ n, (shL sh)[i]? = some n ∧ num s < n := by
  cases s with
  | skip => cases hi
  | plain w n => cases w <;> (cases hi; exact ⟨_, rfl, h⟩)
  | hold k b => cases hi; exact ⟨_, rfl, h.1⟩
  | either a b => cases hi
  | when m a b => cases hi; exact ⟨_, rfl, h.1⟩
  | loop b => cases hi
theorem okS_bodies {sh : Sh} {d : Nat} {s : Stm} (h : okS sh (d + 1) s) : ∀ b ∈ bodiesOf s, okB sh d b := by
  intro b hb
  cases s with
  | skip => exact nomatch hb
  | plain w n => exact nomatch hb
  | hold k b' => rw [List.mem_singleton.mp hb]; exact h.2
  | either x y =>
    rcases List.mem_cons.mp hb with e | hb
    · rw [e]; exact h.1
    · rw [List.mem_singleton.mp hb]; exact h.2
  | when m x y =>
    rcases List.mem_cons.mp hb with e | hb
    · rw [e]; exact h.2.1
    · rw [List.mem_singleton.mp hb]; exact h.2.2
  | loop b' => rw [List.mem_singleton.mp hb]; exact h
theorem szS_bodies (d : Nat) (s : Stm) : szS (d + 1) s = 1 + ((bodiesOf s).map (szB d)).sum := by
  cases s <;> simp [szS, bodiesOf]
theorem szS_le {d : Nat} {s : Stm} : ∀ {b : List Stm}, s ∈ b → szS d s ≤ szB d b
  | [], h => nomatch h
  | c :: b, h => by
    show szS d s ≤ szS d c + szB d b
    rcases List.mem_cons.mp h with e | h
    · rw [e]; omega
    · have := szS_le (d := d) h
      omega
theorem le_sum {α : Type} {f : α → Nat} {b : α} : ∀ {bl : List α}, b ∈ bl → f b ≤ (bl.map f).sum
  | [], h => nomatch h
  | c :: bl, h => by
    rw [List.map_cons, List.sum_cons]
    rcases List.mem_cons.mp h with e | h
    · rw [e]; omega
    · have := le_sum (f := f) h
      omega
theorem SA_view {H : Hp} {d : Nat} {v : V} {s : Stm} (h : SA H (d + 1) v s) : ∃ (a : Addr) (ps : List Addr), v = .ref a ∧ H a = some (.tup (.str (word s) :: (headOf s ++ ps.map V.ref))) ∧ Paired (BA H d) ps (bodiesOf s) := by
  obtain ⟨a, rfl, h⟩ := h
  cases s with
  | skip => exact ⟨a, [], rfl, h, .nil⟩
  | plain w n => exact ⟨a, [], rfl, by cases w <;> exact h, .nil⟩
  | hold k b => obtain ⟨p, h1, h2⟩ := h; exact ⟨a, [p], rfl, h1, .cons h2 .nil⟩
  | either x y => obtain ⟨p, q, h1, h2, h3⟩ := h; exact ⟨a, [p, q], rfl, h1, .cons h2 (.cons h3 .nil)⟩
  | when m x y => obtain ⟨p, q, h1, h2, h3⟩ := h; exact ⟨a, [p, q], rfl, h1, .cons h2 (.cons h3 .nil)⟩
  | loop b => obtain ⟨p, h1, h2⟩ := h; exact ⟨a, [p], rfl, h1, .cons h2 .nil⟩
theorem head_len (s : Stm) : (headOf s).length = (match bIx s with | none => 0 | some _ => 1) := by
  unfold headOf
  cases bIx s <;> rfl
section
variable {K : PySem.W.Frag} {w : World} {mg : Str → Option Value} {kd pw CP CF : Addr}
theorem kind_of (T : Txt K w mg kd pw CP CF) (s : Stm) : ∃ t : Addr, (∃ u, PySem.W.nsIn K kd (word s) = some (some u) ∧ RelV (.ref t) u) ∧ ∀ H, SqT K H t [bound s, .int ((bodiesOf s).length : Int)] := by
  have m := T.kind
  cases s with
  | skip => exact m "skip" .non 0 (by decide +kernel)
  | plain w n =>
    cases w with
    | touch => exact m "touch" (.int 1) 0 (by decide +kernel)
    | write => exact m "write" (.int 1) 0 (by decide +kernel)
    | mark => exact m "mark" (.int 4) 0 (by decide +kernel)
    | set => exact m "set" (.int 2) 0 (by decide +kernel)
    | claim => exact m "claim" (.int 2) 0 (by decide +kernel)
    | call => exact m "call" (.int 3) 0 (by decide +kernel)
  | hold k b => exact m "hold" (.int 0) 1 (by decide +kernel)
  | either a b => exact m "either" .non 2 (by decide +kernel)
  | when k a b => exact m "when" (.int 2) 2 (by decide +kernel)
  | loop b => exact m "loop" .non 1 (by decide +kernel)
theorem kdct_of (T : Txt K w mg kd pw CP CF) {x : Str} {t : Addr} (h : ∃ u, PySem.W.nsIn K kd x = some (some u) ∧ RelV (.ref t) u) : KDct K w kd x (.ref t) := by
  obtain ⟨es, n, D⟩ := T.kinds
  obtain ⟨u, h1, h2⟩ := h
  exact ⟨es, n, u, D.at_, D.lit, h1, h2⟩
end
/-- xs[k:] of a tuple -/
theorem cut_drop (xs : List V) (k : Nat) : cutV xs (some (k : Int)) none = xs.drop k := by
  unfold cutV
  rw [HT.sIx_nat, HT.sIx_none]
  by_cases h : k ≤ xs.length
  · rw [Nat.min_eq_left h]
    refine List.take_of_length_le ?_
    rw [List.length_drop]
    exact Nat.le_refl _
  · have h' : xs.length ≤ k := by omega
    rw [Nat.min_eq_right h', List.drop_eq_nil_of_le (Nat.le_refl _), List.drop_eq_nil_of_le h', List.take_nil]
theorem lt_sizeLine {n : Nat} (h : n ≤ 1000000) : n < sizeLine := Nat.lt_of_le_of_lt h (by decide)
theorem all_true : ∀ n : Nat, (List.replicate n true).all id = true
  | 0 => rfl
  | n + 1 => all_true n
theorem rep_snoc {α : Type} (n : Nat) (x : α) : List.replicate n x ++ [x] = List.replicate (n + 1) x := (List.replicate_succ').symm

section
variable {P : Program} {w : World} {K : PySem.W.Frag} {mg : Str → Option Value} {base : Heap} {kd pw CP CF : Addr} {f : Addr} {fd : FuncData}
/-! ### is_statement_of, is_body_of -/
def shV (sh : Sh) : List V := [vN sh.L, vN sh.C, vN sh.M, vN sh.P]
def spIsStm (K : PySem.W.Frag) (d : Nat) : Sp := fun vs H Q _ => ∃ (sa : Addr) (sh : Sh) (v : V) (s : Stm) (dp : Int), vs = [.ref sa, v, .int dp] ∧ SqT K H sa (shV sh) ∧ SA H d v s ∧ okS sh d s ∧ (d : Int) ≤ dp ∧ szS d s ≤ 1000 ∧ ∀ H', Same H H' → Q (.bl true) H'
def spIsBody (K : PySem.W.Frag) (d : Nat) : Sp := fun vs H Q _ => ∃ (sa : Addr) (sh : Sh) (p : Addr) (b : List Stm) (dp : Int), vs = [.ref sa, .ref p, .int dp] ∧ SqT K H sa (shV sh) ∧ BA H d p b ∧ okB sh d b ∧ (d : Int) ≤ dp ∧ szB d b ≤ 1000 ∧ ∀ H', Same H H' → Q (.bl true) H'
abbrev st_is_body_of : Stmt := top 20
abbrev N_is_body_of : List Str := ["shape", "value", "deep", "one"]
theorem sc_is_body_of : FnScope N_is_body_of ["shape", "value", "deep"] (defScope st_is_body_of) := ⟨rfl, rfl, rfl, by decide +kernel, rfl, by decide +kernel, by decide +kernel⟩
/-- all([f(x) for x in t]): every turn is True -/
theorem ok_is_body_of {d k : Nat} (F : FunD K "is_body_of" "is_body_of" (defArgs st_is_body_of) (defBody st_is_body_of) (defScope st_is_body_of) [.int 6] [] f fd) (T : Txt K w mg kd pw CP CF) (c_is_statement_of : Cal P w K mg base k "is_statement_of" (spIsStm K d) []) :
    FnOk P w K mg base CX0 (k + 1) f fd ["shape", "value", "deep"] (spIsBody K d) := by
  refine F.ok sc_is_body_of (fun vs H Q E h => ?_) (fun cdv A outer s H vs Q E hr h => ?_)
  · obtain ⟨sa, sh, p, b, dp, rfl, _⟩ := h
    rfl
  obtain ⟨sa, sh, p, b, dp, rfl, hsh, hB, hok, hdp, hsz, q⟩ := h
  obtain ⟨xs, hp, hx⟩ := hB
  refine ⟨_, (pss_one (ps_ret (pe_and (pe_callB call_isi (by rfl) T.n_isinstance bt_isinstance (pa_cons (pv 1) (pa_cons (pe_bltn (v := .ty "tuple") (by rfl) T.n_tuple bt_tuple rfl) pa_nil))) (pe_one (pe_callB (cr_all rfl) (by rfl) T.n_all bt_all (pa_cons (pe_lc (own := [("one", 3)]) (by rfl) sc_is_body_of.nd (pi_tup (pv 1)) (blkOk_by (own := [("one", 3)]) (N := N_is_body_of) (sc := defScope st_is_body_of) (by decide +kernel)) (fun _ _ _ _ _ => (pg_name (i := 3) sc_is_body_of.nd rfl (Or.inl rfl))) (fun _ _ _ _ _ => pts_nil) (fun _ _ _ _ _ => (pe_c c_is_statement_of hr (Nat.le_refl _) (by rfl) (pa_cons (pv 0) (pa_cons (pv 3) (pa_cons (pv 2) pa_nil)))))) pa_nil)))))), ?_⟩
  refine ⟨_, rfl, _, _, _, _, true, rfl, .ty "tuple", .base (.tup hp), kit_ty (by decide +kernel), _, rfl, iteT ?_⟩
  refine ⟨_, rfl, p, rfl, ⟨_, SqT.of hp⟩, fun D hD => ?_⟩
  have hlen := paired_len hx
  have hszl := szL_len (d := d) (b := b)
  refine lc_tup (K := K) (a := p) (xs := xs) (fun i H1 => Same H H1 ∧ H1 D = some (.lst ((List.replicate i true).map V.bl))) ⟨same_new hD _, upd_same⟩ (fun i H1 _ h1 => SqT.of (h1.1 _ _ hp)) ?_ ?_
  · rintro i x H1 hi ⟨h1, h2⟩
    obtain ⟨st, hst, hsa⟩ := paired_at hx hi
    have hm : st ∈ b := List.mem_of_getElem? hst
    have hs1 : szS d st ≤ szB d b := szS_le hm
    refine ⟨rfl, _, rfl, _, rfl, _, rfl, sa, sh, x, st, dp, rfl, h1.sqt hsh, SA_mono h1.tups d hsa, hok st hm, hdp, by omega, fun H' h3 => ?_⟩
    have hi' : i < xs.length := (List.getElem?_eq_some_iff.mp hi).1
    refine ⟨_, h3 _ _ h2, lt_sizeLine (by rw [List.length_map, List.length_replicate]; omega), ?_, ?_⟩
    · intro c o e
      rw [upd_ne (ne_of_none e hD)]
      exact h3 _ _ (h1 _ _ e)
    · refine Eq.trans upd_same ?_
      rw [← rep_snoc, List.map_append]
      rfl
  · rintro H1 ⟨h1, h2⟩
    refine ⟨D, _, rfl, SqL.of h2, ?_⟩
    rw [all_true]
    exact q _ h1
end
end Dp
namespace Dp
open PySem L2
open C8 (Cal Met Mak pe_c pe_mk pe_mt pe_mt0 pe_gc InsC call_isC)
section
variable {P : Program} {w : World} {K : PySem.W.Frag} {mg : Str → Option Value} {base : Heap} {kd pw CP CF : Addr} {f : Addr} {fd : FuncData}
abbrev st_is_statement_of : Stmt := top 19
abbrev N_is_statement_of : List Str := ["shape", "value", "deep", "bound", "many", "first", "bounds", "body"]
theorem sc_is_statement_of : FnScope N_is_statement_of ["shape", "value", "deep"] (defScope st_is_statement_of) := ⟨rfl, rfl, rfl, by decide +kernel, rfl, by decide +kernel, by decide +kernel⟩
theorem ok_is_statement_of {d k : Nat} (F : GFun K mg "is_statement_of" st_is_statement_of f fd) (T : Txt K w mg kd pw CP CF) (c_is_count : Cal P w K mg base 2 "is_count" spIsCount []) (c_is_body_of : Cal P w K mg base k "is_body_of" (spIsBody K d) []) (hk : 2 ≤ k) :
    Cal P w K mg base (k + 1) "is_statement_of" (spIsStm K (d + 1)) [] := by
  have b : Binds K fd ["shape", "value", "deep"] [] := F.fn.binds fun _ _ _ _ _ _ us hl => match us, hl with | [_, _, _], _ => rfl
  obtain ⟨es, n, D⟩ := T.kinds
  refine cal_of F b (F.fn.ok sc_is_statement_of (fun vs H Q E h => ?_) (fun cdv A outer s H vs Q E hr h => ?_))
  · obtain ⟨sa, sh, v, s, dp, rfl, _⟩ := h
    rfl
  obtain ⟨sa, sh, v, s, dp, rfl, hsh, hS, hok, hdp, hsz, q⟩ := h
  obtain ⟨a, ps, rfl, ha, hps⟩ := SA_view hS
  obtain ⟨t, hkd, ht⟩ := kind_of T s
  have hkw := kdct_of T hkd
  have h0 : atI ((.str (word s) :: (headOf s ++ ps.map V.ref)) : List V) 0 = some (.str (word s)) := at_of (j := 0) rfl rfl
  have hl : ((.str (word s) :: (headOf s ++ ps.map V.ref)) : List V).length = (headOf s).length + ps.length + 1 := by simp
  have hpl := paired_len hps
  have hm := many_le s
  have dp0 : ¬ (V.int dp = V.int 0) := fun z => by
    have := V.int.inj z
    omega
  refine ⟨_, ((pss_cons (ps_if (PW.pt (pw_or (pt_cmpR op_eq (pv 2) pe_int (nomark _)) (pw_or (pt_not (pt_val (pe_callB call_isi (by rfl) T.n_isinstance bt_isinstance (pa_cons (pv 1) (pa_cons (pe_bltn (v := .ty "tuple") (by rfl) T.n_tuple bt_tuple rfl) pa_nil))))) (pw_or (pt_cmpR op_eq (pe_callB call_len_seq (by rfl) T.n_len bt_len (pa_cons (pv 1) pa_nil)) pe_int (nomark _)) (pw_or1 (pt_not (pt_val (pe_callB call_isi (by rfl) T.n_isinstance bt_isinstance (pa_cons (pe_ix ix_tup (pv 1) pe_int (fun _ _ => rfl)) (pa_cons (pe_bltn (v := .ty "str") (by rfl) T.n_str bt_str rfl) pa_nil)))))))))) (pss_one (ps_ret pe_bl)) pss_nil)
  (pss_cons (ps_if (pt_cmpR (op_notIn_kd D) (pe_ix ix_tup (pv 1) pe_int (fun _ _ => rfl)) (pe_gc (by rfl) T.c_KINDS) (by rfl)) (pss_one (ps_ret pe_bl)) pss_nil)
  (pss_cons (ps_asg (pe_ix ix_kdict (pe_gc (by rfl) T.c_KINDS) (pe_ix ix_tup (pv 1) pe_int (fun _ _ => rfl)) (fun _ _ => rfl)) (pg_tup rfl (pgs_cons (pg_name (i := 3) sc_is_statement_of.nd rfl (Or.inl rfl)) (pgs_cons (pg_name (i := 4) sc_is_statement_of.nd rfl (Or.inl rfl)) pgs_nil))))
  (pss_cons (ps_set (i := 5) sc_is_statement_of.nd rfl (Or.inl rfl) (pe_ifExp (pt_cmpR op_isN (pv 3) pe_non (nomark _)) pe_int pe_int))
  (pss_cons (ps_if (pt_cmpR op_ne (pe_callB call_len_seq (by rfl) T.n_len bt_len (pa_cons (pv 1) pa_nil)) (pe_op op_add (pv 5) (pv 4)) (nomark _)) (pss_one (ps_ret pe_bl)) pss_nil)
  (pss_cons (ps_set (i := 6) sc_is_statement_of.nd rfl (Or.inl rfl) (pe_op op_catA (pv 0) (pe_tup (pa_cons (pe_op op_add (pe_gc (by rfl) T.c_MOST_LABEL) pe_int) pa_nil))))
  (pss_cons (ps_if (PW.pt (pw_and (pt_cmpR op_notN (pv 3) pe_non (nomark _)) (pw_and1 (PW.pt (pw_or (pt_not (pt_val (pe_c c_is_count hr (by omega) (by rfl) (pa_cons (pe_ix ix_tup (pv 1) pe_int (fun _ _ => rfl)) pa_nil)))) (pw_or1 (pt_cmpR op_ge (pe_ix ix_tup (pv 1) pe_int (fun _ _ => rfl)) (pe_ix ix_tup (pv 6) (pv 3) (fun _ _ => rfl)) (nomark _)))))))) (pss_one (ps_ret pe_bl)) pss_nil)
  (pss_one (ps_ret (pe_callB (cr_all rfl) (by rfl) T.n_all bt_all (pa_cons (pe_lc (own := [("body", 7)]) (by rfl) sc_is_statement_of.nd (pi_tup (pe_slice sl_tup (pv 1) (po_some (pv 5)) po_none)) (blkOk_by (own := [("body", 7)]) (N := N_is_statement_of) (sc := defScope st_is_statement_of) (by decide +kernel)) (fun _ _ _ _ _ => (pg_name (i := 7) sc_is_statement_of.nd rfl (Or.inl rfl))) (fun _ _ _ _ _ => pts_nil) (fun _ _ _ _ _ => (pe_c c_is_body_of hr (by omega) (by rfl) (pa_cons (pv 0) (pa_cons (pv 7) (pa_cons (pe_op op_sub (pv 2) pe_int) pa_nil)))))) pa_nil)))))))))))), ?_⟩
  -- deep == 0 or not isinstance(value, tuple) or len(value) == 0 or not isinstance(value[0], str)
  refine ⟨_, rfl, rfl, _, rfl, ?_⟩
  rw [decide_eq_false dp0]
  refine iteF ⟨_, rfl, _, _, _, _, true, rfl, .ty "tuple", .base (.tup ha), kit_ty (by decide +kernel), _, rfl, iteF ?_⟩
  refine ⟨_, rfl, a, _, rfl, .inr (SqT.of ha), rfl, _, rfl, ?_⟩
  rw [hl, decide_eq_false (fun z => by have := V.int.inj z; omega)]
  refine iteF ⟨_, rfl, a, _, _, _, rfl, rfl, SqT.of ha, h0, _, _, _, _, true, rfl, .ty "str", .base (.str _), kit_ty (by decide +kernel), _, rfl, iteF ?_⟩
  -- value[0] not in KINDS
  obtain ⟨u0, hu0, ru0⟩ := hkd
  refine ⟨_, rfl, a, _, _, _, rfl, rfl, SqT.of ha, h0, _, _, rfl, rfl, hu0, _, rfl, iteF ?_⟩
  -- bound, many = KINDS[value[0]]
  refine ⟨_, rfl, a, _, _, _, rfl, rfl, SqT.of ha, h0, kd, _, _, rfl, rfl, hkw, t, _, rfl, ht _, rfl, _, _, rfl, _, _, rfl, rfl, ?_⟩
  cases hb : bIx s with
  | none =>
    have eb : bound s = .non := by unfold bound; rw [hb]
    have eh : headOf s = [] := by unfold headOf; rw [hb]
    rw [eb]
    rw [eh] at ha h0 hl
    have hl2 : ((.str (word s) :: ([] ++ ps.map V.ref)) : List V).length = ps.length + 1 := by simp
    -- first
    refine ⟨_, rfl, rfl, _, rfl, ?_⟩
    refine iteT ?_
    refine ⟨_, rfl, a, _, rfl, .inr (SqT.of ha), _, rfl, _, rfl, _, _, rfl, rfl, rfl, _, rfl, ?_⟩
    refine iteNS (congrArg V.int (by rw [hl2]; omega)) ?_
    -- bounds
    refine ⟨_, rfl, _, _, rfl, rfl, by decide, fun p hp => ?_⟩
    have g1 := same_new hp (.tup [.int (9 + 1)])
    refine ⟨sa, p, _, _, rfl, rfl, g1.sqt hsh, SqT.of upd_same, (by show 5 ≤ sizeLine; decide), fun z => (by cases z), fun _ z => (by cases z), fun _ _ p2 hp2 => ?_⟩
    have g2 := g1.trans (same_new hp2 (.tup (shV sh ++ [.int (9 + 1)])))
    -- bound is not None
    refine ⟨_, rfl, rfl, _, rfl, iteF (iteF ?_)⟩
    -- all
    refine ⟨_, rfl, _, rfl, _, rfl, a, _, rfl, SqT.of (g2 _ _ ha), ?_, fun r hr => ?_⟩
    · rw [hl2, show (1 : Int) = ((1 : Nat) : Int) from rfl, HT.sIx_nat]
      omega
    have er : cutV (.str (word s) :: ([] ++ ps.map V.ref)) (some 1) none = ps.map V.ref := cut_drop _ 1
    rw [er]
    generalize eH : upd (upd (upd H p (.tup [.int (9 + 1)])) p2 (.tup (shV sh ++ [.int (9 + 1)]))) r (.tup (ps.map V.ref)) = H0
    have G : Same H H0 := by rw [← eH]; exact g2.trans (same_new hr _)
    have hr1 : H0 r = some (.tup (ps.map V.ref)) := by rw [← eH]; exact upd_same
    refine ⟨r, rfl, ⟨_, SqT.of hr1⟩, fun D1 hD => ?_⟩
    refine lc_tup (K := K) (a := r) (xs := ps.map V.ref) (fun i H1 => Same H H1 ∧ H1 r = some (.tup (ps.map V.ref)) ∧ H1 D1 = some (.lst ((List.replicate i true).map V.bl))) ⟨G.trans (same_new hD _), by rw [upd_ne (ne_of_none hr1 hD)]; exact hr1, upd_same⟩ (fun i H1 _ h1 => SqT.of h1.2.1) ?_ ?_
    · rintro j x H1 hj ⟨h1, h2, h3⟩
      obtain ⟨y, hy, rfl⟩ : ∃ y, ps[j]? = some y ∧ V.ref y = x := by
        rw [List.getElem?_map] at hj
        exact Option.map_eq_some_iff.mp hj
      obtain ⟨bd, hbd, hba⟩ := paired_at hps hy
      have hmb : bd ∈ bodiesOf s := List.mem_of_getElem? hbd
      have hsb : szB d bd ≤ ((bodiesOf s).map (szB d)).sum := le_sum hmb
      have hss := szS_bodies d s
      refine ⟨rfl, _, rfl, _, rfl, _, rfl, _, _, rfl, rfl, sa, sh, y, bd, dp - 1, rfl, h1.sqt hsh, BA_mono h1.tups hba, okS_bodies hok bd hmb, by omega, by omega, fun H' h4 => ?_⟩
      refine ⟨_, h4 _ _ h3, lt_sizeLine (by rw [List.length_map, List.length_replicate]; have := (List.getElem?_eq_some_iff.mp hy).1; omega), ?_, ?_, ?_⟩
      · intro c o e
        rw [upd_ne (ne_of_none (G _ _ e) hD)]
        exact h4 _ _ (h1 _ _ e)
      · rw [upd_ne (ne_of_none hr1 hD)]
        exact h4 _ _ h2
      · refine Eq.trans upd_same ?_
        rw [← rep_snoc, List.map_append]
        rfl
    · rintro H1 ⟨h1, h2, h3⟩
      refine ⟨D1, _, rfl, SqL.of h3, ?_⟩
      rw [all_true]
      exact q _ h1
  | some bi =>
    have eb : bound s = .int (bi : Int) := by unfold bound; rw [hb]
    have eh : headOf s = [vN (num s)] := by unfold headOf; rw [hb]
    obtain ⟨nb, hnb, hlt⟩ := okS_num hok hb
    rw [eb]
    rw [eh] at ha h0 hl
    have hl2 : ((.str (word s) :: ([vN (num s)] ++ ps.map V.ref)) : List V).length = ps.length + 2 := by simp
    have h1 : atI ((.str (word s) :: ([vN (num s)] ++ ps.map V.ref)) : List V) 1 = some (vN (num s)) := at_of (j := 1) rfl rfl
    -- first
    refine ⟨_, rfl, rfl, _, rfl, ?_⟩
    rw [decide_eq_false (show ¬ (V.int (bi : Int) = V.non) from fun z => by cases z)]
    refine iteF ?_
    refine ⟨_, rfl, a, _, rfl, .inr (SqT.of ha), _, rfl, _, rfl, _, _, rfl, rfl, rfl, _, rfl, ?_⟩
    refine iteNS (congrArg V.int (by rw [hl2]; omega)) ?_
    -- bounds
    refine ⟨_, rfl, _, _, rfl, rfl, by decide, fun p hp => ?_⟩
    have g1 := same_new hp (.tup [.int (9 + 1)])
    refine ⟨sa, p, _, _, rfl, rfl, g1.sqt hsh, SqT.of upd_same, (by show 5 ≤ sizeLine; decide), fun z => (by cases z), fun _ z => (by cases z), fun _ _ p2 hp2 => ?_⟩
    have g2 := g1.trans (same_new hp2 (.tup (shV sh ++ [.int (9 + 1)])))
    have hbv : atI (shV sh ++ [.int (9 + 1)]) (bi : Int) = some (vN nb) := by
      refine atI_nat ?_
      have e : shV sh ++ [.int (9 + 1)] = (shL sh).map vN := rfl
      rw [e, List.getElem?_map, hnb]
      rfl
    -- bound is not None and (not is_count(value[1]) or value[1] >= bounds[bound])
    refine ⟨_, rfl, rfl, _, rfl, ?_⟩
    rw [decide_eq_false (show ¬ (V.int (bi : Int) = V.non) from fun z => by cases z)]
    refine iteT ⟨_, rfl, a, _, _, _, rfl, rfl, SqT.of (g2 _ _ ha), h1, _, rfl, _, rfl, ?_⟩
    rw [decide_eq_true (Int.natCast_nonneg (num s))]
    refine iteF ⟨_, rfl, a, _, _, _, rfl, rfl, SqT.of (g2 _ _ ha), h1, _, rfl, _, rfl, p2, _, _, _, rfl, rfl, SqT.of upd_same, hbv, _, _, rfl, rfl, _, rfl, ?_⟩
    rw [decide_eq_false (by omega)]
    refine iteF ?_
    -- all
    refine ⟨_, rfl, _, rfl, _, rfl, a, _, rfl, SqT.of (g2 _ _ ha), ?_, fun r hr => ?_⟩
    · rw [hl2, show (2 : Int) = ((2 : Nat) : Int) from rfl, HT.sIx_nat]
      omega
    have er : cutV (.str (word s) :: ([vN (num s)] ++ ps.map V.ref)) (some 2) none = ps.map V.ref := cut_drop _ 2
    rw [er]
    generalize eH : upd (upd (upd H p (.tup [.int (9 + 1)])) p2 (.tup (shV sh ++ [.int (9 + 1)]))) r (.tup (ps.map V.ref)) = H0
    have G : Same H H0 := by rw [← eH]; exact g2.trans (same_new hr _)
    have hr1 : H0 r = some (.tup (ps.map V.ref)) := by rw [← eH]; exact upd_same
    refine ⟨r, rfl, ⟨_, SqT.of hr1⟩, fun D1 hD => ?_⟩
    refine lc_tup (K := K) (a := r) (xs := ps.map V.ref) (fun i H1 => Same H H1 ∧ H1 r = some (.tup (ps.map V.ref)) ∧ H1 D1 = some (.lst ((List.replicate i true).map V.bl))) ⟨G.trans (same_new hD _), by rw [upd_ne (ne_of_none hr1 hD)]; exact hr1, upd_same⟩ (fun i H1 _ h1 => SqT.of h1.2.1) ?_ ?_
    · rintro j x H1 hj ⟨h1, h2, h3⟩
      obtain ⟨y, hy, rfl⟩ : ∃ y, ps[j]? = some y ∧ V.ref y = x := by
        rw [List.getElem?_map] at hj
        exact Option.map_eq_some_iff.mp hj
      obtain ⟨bd, hbd, hba⟩ := paired_at hps hy
      have hmb : bd ∈ bodiesOf s := List.mem_of_getElem? hbd
      have hsb : szB d bd ≤ ((bodiesOf s).map (szB d)).sum := le_sum hmb
      have hss := szS_bodies d s
      refine ⟨rfl, _, rfl, _, rfl, _, rfl, _, _, rfl, rfl, sa, sh, y, bd, dp - 1, rfl, h1.sqt hsh, BA_mono h1.tups hba, okS_bodies hok bd hmb, by omega, by omega, fun H' h4 => ?_⟩
      refine ⟨_, h4 _ _ h3, lt_sizeLine (by rw [List.length_map, List.length_replicate]; have := (List.getElem?_eq_some_iff.mp hy).1; omega), ?_, ?_, ?_⟩
      · intro c o e
        rw [upd_ne (ne_of_none (G _ _ e) hD)]
        exact h4 _ _ (h1 _ _ e)
      · rw [upd_ne (ne_of_none hr1 hD)]
        exact h4 _ _ h2
      · refine Eq.trans upd_same ?_
        rw [← rep_snoc, List.map_append]
        rfl
    · rintro H1 ⟨h1, h2, h3⟩
      refine ⟨D1, _, rfl, SqL.of h3, ?_⟩
      rw [all_true]
      exact q _ h1
end
end Dp
namespace Dp
open PySem L2
open C8 (Cal Met Mak pe_c pe_mk pe_mt pe_mt0 pe_gc InsC call_isC)
theorem take_snoc {α β : Type} (g : α → β) {l : List α} {i : Nat} {x : α} (h : l[i]? = some x) : (l.take (i + 1)).map g = (l.take i).map g ++ [g x] := by
  rw [List.take_succ, h, List.map_append]
  rfl
theorem sum_pred (d : Nat) : ∀ b : List Stm, (b.map fun s => (szS d s : Int) - 1).sum + (b.length : Int) = (szB d b : Int)
  | [] => rfl
  | s :: r => by
    have ih := sum_pred d r
    show ((szS d s : Int) - 1 + (r.map fun s => (szS d s : Int) - 1).sum) + ((r.length + 1 : Nat) : Int) = ((szS d s + szB d r : Nat) : Int)
    omega
theorem sum_cast (f : List Stm → Nat) : ∀ bl : List (List Stm), (bl.map fun b => (f b : Int)).sum = (((bl.map f).sum : Nat) : Int)
  | [] => rfl
  | b :: r => by
    have ih := sum_cast f r
    show (f b : Int) + (r.map fun b => (f b : Int)).sum = ((f b + (r.map f).sum : Nat) : Int)
    omega
section
variable {P : Program} {w : World} {K : PySem.W.Frag} {mg : Str → Option Value} {base : Heap} {kd pw CP CF : Addr} {f : Addr} {fd : FuncData}
def spBodiesOf (d : Nat) : Sp := fun vs H Q _ => ∃ (v : V) (s : Stm), vs = [v] ∧ SA H (d + 1) v s ∧ ∀ (r : Addr) (ps : List Addr) (H' : Hp), Same H H' → H' r = some (.tup (ps.map V.ref)) → Paired (BA H' d) ps (bodiesOf s) → Q (.ref r) H'
abbrev st_bodies_of : Stmt := top 21
abbrev N_bodies_of : List Str := ["statement", "many"]
theorem sc_bodies_of : FnScope N_bodies_of ["statement"] (defScope st_bodies_of) := ⟨rfl, rfl, rfl, by decide +kernel, rfl, by decide +kernel, by decide +kernel⟩
theorem ok_bodies_of {d : Nat} (F : GFun K mg "bodies_of" st_bodies_of f fd) (T : Txt K w mg kd pw CP CF) : Cal P w K mg base 1 "bodies_of" (spBodiesOf d) [] := by
  have b : Binds K fd ["statement"] [] := F.fn.binds fun _ _ _ _ _ _ us hl => match us, hl with | [_], _ => rfl
  refine cal_of F b (F.fn.ok sc_bodies_of (fun vs H Q E h => ?_) (fun cdv A outer s H vs Q E hr h => ?_))
  · obtain ⟨v, s, rfl, _⟩ := h
    rfl
  obtain ⟨v, s, rfl, hS, q⟩ := h
  obtain ⟨a, ps, rfl, ha, hps⟩ := SA_view hS
  obtain ⟨t, hkd, ht⟩ := kind_of T s
  have hkw := kdct_of T hkd
  have h0 : atI ((.str (word s) :: (headOf s ++ ps.map V.ref)) : List V) 0 = some (.str (word s)) := at_of (j := 0) rfl rfl
  have hpl := paired_len hps
  refine ⟨_, ((pss_cons (ps_set (i := 1) sc_bodies_of.nd rfl (Or.inl rfl) (pe_ix ix_tup (pe_ix ix_kdict (pe_gc (by rfl) T.c_KINDS) (pe_ix ix_tup (pv 0) pe_int (fun _ _ => rfl)) (fun _ _ => rfl)) pe_int (fun _ _ => rfl)))
  (pss_one (ps_ret (pe_slice sl_tup (pv 0) (po_some (pe_op op_sub (pe_callB call_len_seq (by rfl) T.n_len bt_len (pa_cons (pv 0) pa_nil)) (pv 1))) po_none))))), ?_⟩
  refine ⟨_, rfl, a, _, _, _, rfl, rfl, SqT.of ha, h0, kd, _, _, rfl, rfl, hkw, t, _, _, _, rfl, rfl, ht _, at_of (j := 1) rfl rfl, ?_⟩
  have hl : ((.str (word s) :: (headOf s ++ ps.map V.ref)) : List V).length = ((headOf s).length + 1) + (bodiesOf s).length := by
    simp
    omega
  refine ⟨_, rfl, _, rfl, a, _, rfl, .inr (SqT.of ha), _, rfl, _, _, rfl, rfl, _, rfl, a, _, rfl, SqT.of ha, ?_, fun r hr => ?_⟩
  · rw [hl, show (((headOf s).length + 1 + (bodiesOf s).length : Nat) : Int) - ((bodiesOf s).length : Int) = (((headOf s).length + 1 : Nat) : Int) by omega, HT.sIx_nat]
    omega
  rw [hl, show (((headOf s).length + 1 + (bodiesOf s).length : Nat) : Int) - ((bodiesOf s).length : Int) = (((headOf s).length + 1 : Nat) : Int) by omega]
  refine q r ps _ (same_new hr _) ?_ (paired_mono (fun p b hb => BA_mono (same_new hr _).tups hb) hps)
  rw [upd_same, cut_drop]
  show some (HO.tup ((headOf s ++ ps.map V.ref).drop (headOf s).length)) = _
  rw [List.drop_left]

def spBodySize (n : Nat) : Sp := fun vs H Q _ => ∃ (d : Nat) (p : Addr) (b : List Stm), n = d + 1 ∧ vs = [.ref p] ∧ BA H d p b ∧ szB d b ≤ 1000 ∧ ∀ H', Same H H' → Q (.int (szB d b : Int)) H'
abbrev st_body_size : Stmt := top 22
abbrev N_body_size : List Str := ["body", "one", "inner"]
theorem sc_body_size : FnScope N_body_size ["body"] (defScope st_body_size) := ⟨rfl, rfl, rfl, by decide +kernel, rfl, by decide +kernel, by decide +kernel⟩
theorem ok_body_size {n : Nat} (F : GFun K mg "body_size" st_body_size f fd) (T : Txt K w mg kd pw CP CF) (c_bodies_of : ∀ d, Cal P w K mg base 1 "bodies_of" (spBodiesOf d) []) (c_body_size : Cal P w K mg base (n + 1) "body_size" (spBodySize n) []) :
    Cal P w K mg base (n + 2) "body_size" (spBodySize (n + 1)) [] := by
  have b : Binds K fd ["body"] [] := F.fn.binds fun _ _ _ _ _ _ us hl => match us, hl with | [_], _ => rfl
  have c_bodies_of := c_bodies_of (n - 1)
  refine cal_of F b (F.fn.ok sc_body_size (fun vs H Q E h => ?_) (fun cdv A outer s H vs Q E hr h => ?_))
  · obtain ⟨d, p, b, e, rfl, _⟩ := h
    rfl
  obtain ⟨d, p, bd, e, rfl, hB, hsz, q⟩ := h
  obtain rfl : n = d := by omega
  obtain ⟨xs, hp, hx⟩ := hB
  have hlen := paired_len hx
  have hszl := szL_len (d := n) (b := bd)
  refine ⟨_, ((pss_one (ps_ret (pe_op op_add (pe_callB call_len_seq (by rfl) T.n_len bt_len (pa_cons (pv 0) pa_nil)) (pe_callB (cr_sum rfl) (by rfl) T.n_sum bt_sum (pa_cons (pe_lc (own := [("one", 1)]) (te := tCB (rSum K) (tCons (tLc (iTup K (tCall (spBodiesOf (n - 1)) [] C8.E0 (tCons (tVar 1) tNil))) (gName 2) tYes (tCall (spBodySize n) [] C8.E0 (tCons (tVar 2) tNil)) [2]) tNil)) (by rfl) sc_body_size.nd (pi_tup (pv 0)) (blkOk_by (own := [("one", 1)]) (N := N_body_size) (sc := defScope st_body_size) (by decide +kernel)) (fun _ _ _ _ _ => (pg_name (i := 1) sc_body_size.nd rfl (Or.inl rfl))) (fun _ _ _ _ _ => pts_nil) (fun _ _ _ _ _ => (pe_callB (cr_sum rfl) (by rfl) T.n_sum bt_sum (pa_cons (pe_lc (own := [("inner", 2)]) (by rfl) sc_body_size.nd (pi_tup (pe_c c_bodies_of hr (by omega) (by rfl) (pa_cons (pv 1) pa_nil))) (blkOk_by (own := [("inner", 2)]) (N := N_body_size) (sc := { kind := ScopeKind.function, names := [(".0", NameKind.local), ("one", NameKind.local), ("sum", NameKind.globalImplicit), ("bodies_of", NameKind.globalImplicit)], isGenerator := false, isCoroutine := false }) (by decide +kernel)) (fun _ _ _ _ _ => (pg_name (i := 2) sc_body_size.nd rfl (Or.inl rfl))) (fun _ _ _ _ _ => pts_nil) (fun _ _ _ _ _ => (pe_c c_body_size hr (by omega) (by rfl) (pa_cons (pv 2) pa_nil)))) pa_nil)))) pa_nil)))))), ?_⟩
  refine ⟨_, rfl, p, _, rfl, .inr (SqT.of hp), ?_⟩
  refine ⟨_, rfl, p, rfl, ⟨_, SqT.of hp⟩, fun D hD => ?_⟩
  refine lc_tup (K := K) (a := p) (xs := xs) (fun i H1 => Same H H1 ∧ H1 D = some (.lst (((bd.take i).map fun s => (szS n s : Int) - 1).map V.int))) ⟨same_new hD _, upd_same⟩ (fun i H1 _ h1 => SqT.of (h1.1 _ _ hp)) ?_ ?_
  · rintro i x H1 hi ⟨h1, h2⟩
    obtain ⟨st, hst, hsa⟩ := paired_at hx hi
    have hm : st ∈ bd := List.mem_of_getElem? hst
    have hs1 : szS n st ≤ szB n bd := szS_le hm
    cases n with
    | zero => exact hsa.elim
    | succ n =>
      have hss := szS_bodies n st
      refine ⟨rfl, _, rfl, ?_⟩
      refine ⟨x, st, rfl, SA_mono h1.tups _ hsa, fun r ps H2 s2 hr hps => ?_⟩
      refine ⟨r, rfl, ⟨_, SqT.of hr⟩, fun D2 hD2 => ?_⟩
      have n12 : D ≠ D2 := ne_of_none (s2 _ _ h2) hD2
      have hrD : r ≠ D2 := ne_of_none hr hD2
      refine lc_tup (K := K) (a := r) (xs := ps.map V.ref) (fun j H3 => Same H2 H3 ∧ H3 D2 = some (.lst ((((bodiesOf st).take j).map fun b => (szB n b : Int)).map V.int))) ⟨same_new hD2 _, upd_same⟩ (fun j H3 _ h3 => SqT.of (h3.1 _ _ hr)) ?_ ?_
      · rintro j y H3 hj ⟨h3, h4⟩
        obtain ⟨z, hz, rfl⟩ : ∃ z, ps[j]? = some z ∧ V.ref z = y := by
          rw [List.getElem?_map] at hj
          exact Option.map_eq_some_iff.mp hj
        obtain ⟨b2, hb2, hba⟩ := paired_at hps hz
        have hmb : b2 ∈ bodiesOf st := List.mem_of_getElem? hb2
        have hsb : szB n b2 ≤ ((bodiesOf st).map (szB n)).sum := le_sum hmb
        refine ⟨rfl, _, rfl, n, z, b2, rfl, rfl, BA_mono h3.tups hba, by omega, fun H4 h5 => ?_⟩
        have hl2 : j < 3 := by
          have := (List.getElem?_eq_some_iff.mp hb2).1
          have := many_le st
          omega
        refine ⟨_, h5 _ _ h4, lt_sizeLine (by rw [List.length_map, List.length_map, List.length_take]; omega), ?_, ?_⟩
        · intro c o e
          rw [upd_ne (ne_of_none e hD2)]
          exact h5 _ _ (h3 _ _ e)
        · refine Eq.trans upd_same ?_
          rw [take_snoc _ hb2, List.map_append]
          rfl
      · rintro H3 ⟨h3, h4⟩
        refine ⟨D2, _, rfl, SqL.of h4, ?_⟩
        have hi' : i < xs.length := (List.getElem?_eq_some_iff.mp hi).1
        refine ⟨_, h3 _ _ (s2 _ _ h2), lt_sizeLine (by rw [List.length_map, List.length_map, List.length_take]; omega), ?_, ?_⟩
        · intro c o e
          rw [upd_ne (ne_of_none e hD)]
          exact h3 _ _ (s2 _ _ (h1 _ _ e))
        · refine Eq.trans upd_same ?_
          have el : (bodiesOf st).take (ps.map V.ref).length = bodiesOf st := by
            rw [List.length_map, paired_len hps, List.take_length]
          rw [el, sum_cast, take_snoc _ hst, List.map_append]
          have e2 : ((((bodiesOf st).map (szB n)).sum : Nat) : Int) = (szS (n + 1) st : Int) - 1 := by omega
          rw [e2]
          rfl
  · rintro H1 ⟨h1, h2⟩
    refine ⟨D, _, rfl, SqL.of h2, _, _, rfl, rfl, ?_⟩
    have e1 : bd.take xs.length = bd := by rw [hlen, List.take_length]
    have e2 := sum_pred n bd
    have e3 : ((xs.length : Nat) : Int) + ((bd.take xs.length).map fun s => (szS n s : Int) - 1).sum = (szB n bd : Int) := by
      rw [e1, hlen]
      omega
    show Q (.int (((xs.length : Nat) : Int) + ((bd.take xs.length).map fun s => (szS n s : Int) - 1).sum)) H1
    rw [e3]
    exact q _ h1
theorem body_size_all (F : GFun K mg "body_size" st_body_size f fd) (T : Txt K w mg kd pw CP CF) (c_bodies_of : ∀ d, Cal P w K mg base 1 "bodies_of" (spBodiesOf d) []) : ∀ n, Cal P w K mg base (n + 1) "body_size" (spBodySize n) []
  | 0 => by
    have b : Binds K fd ["body"] [] := F.fn.binds fun _ _ _ _ _ _ us hl => match us, hl with | [_], _ => rfl
    have no : ∀ vs H Q E, ¬ spBodySize 0 vs H Q E := fun vs H Q E h => by
      obtain ⟨d, _, _, e, _⟩ := h
      omega
    exact cal_of F b ⟨fun vs H Q E h => absurd h (no vs H Q E), fun A outer s H args us vs Q E _ _ _ _ h => absurd h (no vs H Q E)⟩
  | n + 1 => ok_body_size F T c_bodies_of (body_size_all F T c_bodies_of n)

/-! ### numbers and lists that are passed -/
def spIsNumberTo : Sp := fun vs H Q _ => ∃ i lo hi : Int, vs = [.int i, .int lo, .int hi] ∧ 0 ≤ i ∧ lo ≤ i ∧ i ≤ hi ∧ Q (.bl true) H
abbrev st_is_number_to : Stmt := top 30
abbrev N_is_number_to : List Str := ["value", "least", "most"]
theorem sc_is_number_to : FnScope N_is_number_to ["value", "least", "most"] (defScope st_is_number_to) := ⟨rfl, rfl, rfl, by decide +kernel, rfl, by decide +kernel, by decide +kernel⟩
theorem ok_is_number_to (F : GFun K mg "is_number_to" st_is_number_to f fd) (c_is_count : Cal P w K mg base 2 "is_count" spIsCount []) : Cal P w K mg base 3 "is_number_to" spIsNumberTo [] := by
  have b : Binds K fd ["value", "least", "most"] [] := F.fn.binds fun _ _ _ _ _ _ us hl => match us, hl with | [_, _, _], _ => rfl
  refine cal_of F b (F.fn.ok sc_is_number_to (fun vs H Q E h => ?_) (fun cdv A outer s H vs Q E hr h => ?_))
  · obtain ⟨i, lo, hi, rfl, _⟩ := h
    rfl
  obtain ⟨i, lo, hi, rfl, h0, h1, h2, q⟩ := h
  refine ⟨_, ((pss_one (ps_ret (pe_and (pe_c c_is_count hr (by omega) (by rfl) (pa_cons (pv 0) pa_nil)) (pe_one (pe_chain op_le op_le (pv 1) (pv 0) (pv 2))))))), ?_⟩
  refine ⟨_, rfl, i, rfl, _, rfl, ?_⟩
  rw [decide_eq_true h0]
  refine iteT ⟨_, rfl, _, rfl, _, _, rfl, rfl, _, rfl, ?_⟩
  rw [decide_eq_true h1]
  refine iteT ⟨_, rfl, _, _, rfl, rfl, ?_⟩
  show Q (.bl (decide (i ≤ hi))) H
  rw [decide_eq_true h2]
  exact q
def spAreBodies (d : Nat) : Sp := fun vs H Q _ => ∃ (L C M : Nat) (a : Addr) (ps : List Addr) (bodies : List (List Stm)), vs = [vN L, vN C, vN M, .ref a] ∧ H a = some (.lst (ps.map V.ref)) ∧ Paired (BA H d) ps bodies ∧
  1 ≤ bodies.length ∧ bodies.length ≤ 6 ∧ (∀ b ∈ bodies, okB ⟨L, C, M, bodies.length⟩ d b ∧ szB d b ≤ 1000) ∧ d ≤ 6 ∧ ∀ H', Same H H' → Q (.bl true) H'
abbrev st_are_bodies : Stmt := top 31
abbrev N_are_bodies : List Str := ["locks", "cells", "modes", "value", "shape", "body"]
theorem sc_are_bodies : FnScope N_are_bodies ["locks", "cells", "modes", "value"] (defScope st_are_bodies) := ⟨rfl, rfl, rfl, by decide +kernel, rfl, by decide +kernel, by decide +kernel⟩
theorem ok_are_bodies {d k : Nat} (F : GFun K mg "are_bodies" st_are_bodies f fd) (T : Txt K w mg kd pw CP CF) (c_is_list : Cal P w K mg base 1 "is_list" (spIsList K) []) (c_is_body_of6 : Cal P w K mg base k "is_body_of" (spIsBody K d) [.int 6]) (hk : 1 ≤ k) :
    Cal P w K mg base (k + 1) "are_bodies" (spAreBodies d) [] := by
  have b : Binds K fd ["locks", "cells", "modes", "value"] [] := F.fn.binds fun _ _ _ _ _ _ us hl => match us, hl with | [_, _, _, _], _ => rfl
  refine cal_of F b (F.fn.ok sc_are_bodies (fun vs H Q E h => ?_) (fun cdv A outer s H vs Q E hr h => ?_))
  · obtain ⟨L, C, M, a, ps, bodies, rfl, _⟩ := h
    rfl
  obtain ⟨L, C, M, a, ps, bodies, rfl, ha, hps, h1, h6, hok, hd, q⟩ := h
  have hpl := paired_len hps
  have hl : (ps.map V.ref).length = bodies.length := by rw [List.length_map, hpl]
  refine ⟨_, ((pss_cons (ps_if (PW.pt (pw_or (pt_not (pt_val (pe_c c_is_list hr (by omega) (by rfl) (pa_cons (pv 3) pa_nil)))) (pw_or1 (pt_not (pt_chain op_le op_le pe_int (pe_callB call_len_seq (by rfl) T.n_len bt_len (pa_cons (pv 3) pa_nil)) (pe_gc (by rfl) T.c_MOST_PROCEDURES)))))) (pss_one (ps_ret pe_bl)) pss_nil)
  (pss_cons (ps_set (i := 4) sc_are_bodies.nd rfl (Or.inr rfl) (pe_tup (pa_cons (pv 0) (pa_cons (pv 1) (pa_cons (pv 2) (pa_cons (pe_callB call_len_seq (by rfl) T.n_len bt_len (pa_cons (pv 3) pa_nil)) pa_nil))))))
  (pss_one (ps_ret (pe_callB (cr_all rfl) (by rfl) T.n_all bt_all (pa_cons (pe_lc (own := [("body", 5)]) (by rfl) sc_are_bodies.nd (pi_list (pv 3)) (blkOk_by (own := [("body", 5)]) (N := N_are_bodies) (sc := defScope st_are_bodies) (by decide +kernel)) (fun _ _ _ _ _ => (pg_name (i := 5) sc_are_bodies.nd rfl (Or.inl rfl))) (fun _ _ _ _ _ => pts_nil) (fun _ _ _ _ _ => (pe_c c_is_body_of6 hr (by omega) (by rfl) (pa_cons (pv 4) (pa_cons (pv 5) pa_nil))))) pa_nil))))))), ?_⟩
  refine ⟨_, rfl, a, _, rfl, ha, fun H1 s1 => ⟨_, rfl, iteF ?_⟩⟩
  have ha1 := s1 _ _ ha
  refine ⟨_, rfl, a, _, rfl, .inl (SqL.of ha1), _, _, rfl, rfl, _, rfl, ?_⟩
  rw [decide_eq_true (by rw [hl]; omega)]
  refine iteT ⟨_, _, rfl, rfl, _, rfl, ?_⟩
  rw [decide_eq_true (by rw [hl]; omega)]
  refine iteF ?_
  -- shape
  refine ⟨_, rfl, _, rfl, _, rfl, _, rfl, a, _, rfl, .inl (SqL.of ha1), (by show 4 ≤ sizeLine; decide), fun sa hsa => ?_⟩
  rw [hl]
  generalize eH : upd H1 sa (.tup [vN L, vN C, vN M, .int (bodies.length : Int)]) = H0
  have G : Same H H0 := by rw [← eH]; exact s1.trans (same_new hsa _)
  have hsh : H0 sa = some (.tup (shV ⟨L, C, M, bodies.length⟩)) := by rw [← eH]; exact upd_same
  refine ⟨_, rfl, a, rfl, ⟨_, SqL.of (G _ _ ha)⟩, fun D hD => ?_⟩
  refine lc_list (K := K) (a := a) (xs := ps.map V.ref) (fun i H1 => Same H0 H1 ∧ H1 D = some (.lst ((List.replicate i true).map V.bl))) ⟨same_new hD _, upd_same⟩ (fun i H1 _ h1 => SqL.of (h1.1 _ _ (G _ _ ha))) ?_ ?_
  · rintro i x H2 hi ⟨g1, g2⟩
    obtain ⟨y, hy, rfl⟩ : ∃ y, ps[i]? = some y ∧ V.ref y = x := by
      rw [List.getElem?_map] at hi
      exact Option.map_eq_some_iff.mp hi
    obtain ⟨bd, hbd, hba⟩ := paired_at hps hy
    have hm : bd ∈ bodies := List.mem_of_getElem? hbd
    refine ⟨rfl, _, rfl, _, rfl, sa, ⟨L, C, M, bodies.length⟩, y, bd, 6, rfl, SqT.of (g1 _ _ hsh), BA_mono (G.trans g1).tups hba, (hok bd hm).1, by omega, (hok bd hm).2, fun H' h3 => ?_⟩
    have hi' := (List.getElem?_eq_some_iff.mp hy).1
    refine ⟨_, h3 _ _ g2, lt_sizeLine (by rw [List.length_map, List.length_replicate]; omega), ?_, ?_⟩
    · intro c o e
      rw [upd_ne (ne_of_none e hD)]
      exact h3 _ _ (g1 _ _ e)
    · refine Eq.trans upd_same ?_
      rw [← rep_snoc, List.map_append]
      rfl
  · rintro H2 ⟨g1, g2⟩
    refine ⟨D, _, rfl, SqL.of g2, ?_⟩
    rw [all_true]
    exact q _ (G.trans g1)
def spAreThreads : Sp := fun vs H Q _ => ∃ (a : Addr) (th : List Nat) (n : Nat), vs = [.ref a, vN n] ∧ H a = some (.lst (th.map vN)) ∧ 1 ≤ th.length ∧ th.length ≤ 4 ∧ (∀ t ∈ th, t < n) ∧ ∀ H', Same H H' → Q (.bl true) H'
abbrev st_are_threads : Stmt := top 32
abbrev N_are_threads : List Str := ["value", "procedures", "one"]
theorem sc_are_threads : FnScope N_are_threads ["value", "procedures"] (defScope st_are_threads) := ⟨rfl, rfl, rfl, by decide +kernel, rfl, by decide +kernel, by decide +kernel⟩
theorem ok_are_threads (F : GFun K mg "are_threads" st_are_threads f fd) (T : Txt K w mg kd pw CP CF) (c_is_list : Cal P w K mg base 1 "is_list" (spIsList K) []) (c_is_number_to : Cal P w K mg base 3 "is_number_to" spIsNumberTo []) :
    Cal P w K mg base 4 "are_threads" spAreThreads [] := by
  have b : Binds K fd ["value", "procedures"] [] := F.fn.binds fun _ _ _ _ _ _ us hl => match us, hl with | [_, _], _ => rfl
  refine cal_of F b (F.fn.ok sc_are_threads (fun vs H Q E h => ?_) (fun cdv A outer s H vs Q E hr h => ?_))
  · obtain ⟨a, th, n, rfl, _⟩ := h
    rfl
  obtain ⟨a, th, n, rfl, ha, h1, h4, hlt, q⟩ := h
  have hl : (th.map vN).length = th.length := List.length_map _
  refine ⟨_, ((pss_cons (ps_if (PW.pt (pw_or (pt_not (pt_val (pe_c c_is_list hr (by omega) (by rfl) (pa_cons (pv 0) pa_nil)))) (pw_or1 (pt_not (pt_chain op_le op_le pe_int (pe_callB call_len_seq (by rfl) T.n_len bt_len (pa_cons (pv 0) pa_nil)) (pe_gc (by rfl) T.c_MOST_THREADS)))))) (pss_one (ps_ret pe_bl)) pss_nil)
  (pss_one (ps_ret (pe_callB (cr_all rfl) (by rfl) T.n_all bt_all (pa_cons (pe_lc (own := [("one", 2)]) (by rfl) sc_are_threads.nd (pi_list (pv 0)) (blkOk_by (own := [("one", 2)]) (N := N_are_threads) (sc := defScope st_are_threads) (by decide +kernel)) (fun _ _ _ _ _ => (pg_name (i := 2) sc_are_threads.nd rfl (Or.inl rfl))) (fun _ _ _ _ _ => pts_nil) (fun _ _ _ _ _ => (pe_c c_is_number_to hr (by omega) (by rfl) (pa_cons (pv 2) (pa_cons pe_int (pa_cons (pe_op op_sub (pv 1) pe_int) pa_nil)))))) pa_nil)))))), ?_⟩
  refine ⟨_, rfl, a, _, rfl, ha, fun H1 s1 => ⟨_, rfl, iteF ?_⟩⟩
  have ha1 := s1 _ _ ha
  refine ⟨_, rfl, a, _, rfl, .inl (SqL.of ha1), _, _, rfl, rfl, _, rfl, ?_⟩
  rw [decide_eq_true (by rw [hl]; omega)]
  refine iteT ⟨_, _, rfl, rfl, _, rfl, ?_⟩
  rw [decide_eq_true (by rw [hl]; omega)]
  refine iteF ?_
  refine ⟨_, rfl, a, rfl, ⟨_, SqL.of ha1⟩, fun D hD => ?_⟩
  refine lc_list (K := K) (a := a) (xs := th.map vN) (fun i H2 => Same H1 H2 ∧ H2 D = some (.lst ((List.replicate i true).map V.bl))) ⟨same_new hD _, upd_same⟩ (fun i H2 _ h2 => SqL.of (h2.1 _ _ ha1)) ?_ ?_
  · rintro i x H2 hi ⟨g1, g2⟩
    obtain ⟨y, hy, rfl⟩ : ∃ y, th[i]? = some y ∧ vN y = x := by
      rw [List.getElem?_map] at hi
      exact Option.map_eq_some_iff.mp hi
    have hm : y ∈ th := List.mem_of_getElem? hy
    have hy' := hlt y hm
    refine ⟨rfl, _, rfl, _, rfl, _, _, rfl, rfl, (y : Int), 0, (n : Int) - 1, rfl, by omega, by omega, by omega, ?_⟩
    have hi' := (List.getElem?_eq_some_iff.mp hy).1
    refine ⟨_, g2, lt_sizeLine (by rw [List.length_map, List.length_replicate]; omega), ?_, ?_⟩
    · intro c o e
      rw [upd_ne (ne_of_none e hD)]
      exact g1 _ _ e
    · refine Eq.trans upd_same ?_
      rw [← rep_snoc, List.map_append]
      rfl
  · rintro H2 ⟨g1, g2⟩
    refine ⟨D, _, rfl, SqL.of g2, ?_⟩
    rw [all_true]
    exact q _ (s1.trans g1)
def spStatementsIn (d : Nat) : Sp := fun vs H Q _ => ∃ (a : Addr) (ps : List Addr) (bodies : List (List Stm)), vs = [.ref a] ∧ H a = some (.lst (ps.map V.ref)) ∧ Paired (BA H d) ps bodies ∧ bodies.length ≤ 1000 ∧ (∀ b ∈ bodies, szB d b ≤ 1000) ∧ ∀ H', Same H H' → Q (.int (((bodies.map (szB d)).sum : Nat) : Int)) H'
abbrev st_statements_in : Stmt := top 33
abbrev N_statements_in : List Str := ["bodies", "body"]
theorem sc_statements_in : FnScope N_statements_in ["bodies"] (defScope st_statements_in) := ⟨rfl, rfl, rfl, by decide +kernel, rfl, by decide +kernel, by decide +kernel⟩
theorem ok_statements_in {d : Nat} (F : GFun K mg "statements_in" st_statements_in f fd) (T : Txt K w mg kd pw CP CF) (c_body_size : Cal P w K mg base (d + 2) "body_size" (spBodySize (d + 1)) []) :
    Cal P w K mg base (d + 3) "statements_in" (spStatementsIn d) [] := by
  have b : Binds K fd ["bodies"] [] := F.fn.binds fun _ _ _ _ _ _ us hl => match us, hl with | [_], _ => rfl
  refine cal_of F b (F.fn.ok sc_statements_in (fun vs H Q E h => ?_) (fun cdv A outer s H vs Q E hr h => ?_))
  · obtain ⟨a, ps, bodies, rfl, _⟩ := h
    rfl
  obtain ⟨a, ps, bodies, rfl, ha, hps, hn, hsz, q⟩ := h
  have hpl := paired_len hps
  refine ⟨_, ((pss_one (ps_ret (pe_callB (cr_sum rfl) (by rfl) T.n_sum bt_sum (pa_cons (pe_lc (own := [("body", 1)]) (by rfl) sc_statements_in.nd (pi_list (pv 0)) (blkOk_by (own := [("body", 1)]) (N := N_statements_in) (sc := defScope st_statements_in) (by decide +kernel)) (fun _ _ _ _ _ => (pg_name (i := 1) sc_statements_in.nd rfl (Or.inl rfl))) (fun _ _ _ _ _ => pts_nil) (fun _ _ _ _ _ => (pe_c c_body_size hr (by omega) (by rfl) (pa_cons (pv 1) pa_nil)))) pa_nil))))), ?_⟩
  refine ⟨_, rfl, a, rfl, ⟨_, SqL.of ha⟩, fun D hD => ?_⟩
  refine lc_list (K := K) (a := a) (xs := ps.map V.ref) (fun i H2 => Same H H2 ∧ H2 D = some (.lst (((bodies.take i).map fun b => (szB d b : Int)).map V.int))) ⟨same_new hD _, upd_same⟩ (fun i H2 _ h2 => SqL.of (h2.1 _ _ ha)) ?_ ?_
  · rintro i x H2 hi ⟨g1, g2⟩
    obtain ⟨y, hy, rfl⟩ : ∃ y, ps[i]? = some y ∧ V.ref y = x := by
      rw [List.getElem?_map] at hi
      exact Option.map_eq_some_iff.mp hi
    obtain ⟨bd, hbd, hba⟩ := paired_at hps hy
    have hm : bd ∈ bodies := List.mem_of_getElem? hbd
    refine ⟨rfl, _, rfl, d, y, bd, rfl, rfl, BA_mono g1.tups hba, hsz bd hm, fun H' h3 => ?_⟩
    have hi' := (List.getElem?_eq_some_iff.mp hy).1
    refine ⟨_, h3 _ _ g2, lt_sizeLine (by rw [List.length_map, List.length_map, List.length_take]; omega), ?_, ?_⟩
    · intro c o e
      rw [upd_ne (ne_of_none e hD)]
      exact h3 _ _ (g1 _ _ e)
    · refine Eq.trans upd_same ?_
      rw [take_snoc _ hbd, List.map_append]
      rfl
  · rintro H2 ⟨g1, g2⟩
    refine ⟨D, _, rfl, SqL.of g2, ?_⟩
    have el : bodies.take (ps.map V.ref).length = bodies := by rw [List.length_map, hpl, List.take_length]
    rw [el, sum_cast]
    exact q _ g1
end
end Dp
namespace Dp
open PySem L2
open C8 (Cal Met Mak pe_c pe_mk pe_mt pe_mt0 pe_gc InsC call_isC)
/-- a method of the text -/
structure MFun (K : PySem.W.Frag) (C : Addr) (m qual : Str) (st : Stmt) (f : Addr) (fd : FuncData) : Prop where
  fn : L2.Fun K m qual st f fd
  me : Meth K C m f
/-- __init__ of the text -/
structure IFun (K : PySem.W.Frag) (C : Addr) (qual : Str) (st : Stmt) (f : Addr) (fd : FuncData) : Prop where
  fn : L2.Fun K "__init__" qual st f fd
  mkr : Mk K C f
theorem met_of {P : Program} {w : World} {K : PySem.W.Frag} {mg : Str → Option Value} {base : Heap} {C : Addr} {m qual : Str} {st : Stmt} {f : Addr} {fd : FuncData} {ps : List Str} {k : Nat} {sp : Sp} (c : Cls K C) (F : MFun K C m qual st f fd) (b : Binds K fd ps []) (ok : FnOk P w K mg base CX0 k f fd ps sp) : Met P w K mg base k C m sp [] :=
  ⟨f, fd, ps, [], c, F.me, ok, b, .nil⟩
theorem mak_of {P : Program} {w : World} {K : PySem.W.Frag} {mg : Str → Option Value} {base : Heap} {C : Addr} {x qual : Str} {st : Stmt} {f : Addr} {fd : FuncData} {ps : List Str} {k : Nat} {sp : Sp} (F : IFun K C qual st f fd) (hm : mg x = some (.ref C)) (b : Binds K fd ps []) (ok : FnOk P w K mg base CX0 k f fd ps sp) : Mak P w K mg base k x C sp [] :=
  ⟨f, fd, ps, [], F.mkr, ok, hm, b, .nil⟩
theorem putF_le {f : Str} {v : V} : ∀ {fs : List (Str × V)} {n : Nat}, fs.length ≤ n → (putF f v fs).length ≤ n + 1
  | [], n, _ => by show 1 ≤ n + 1; omega
  | (g, x) :: r, n, h => by
    show (if g = f then (g, v) :: r else (g, x) :: putF f v r).length ≤ n + 1
    have h' : r.length + 1 ≤ n := h
    split
    · show r.length + 1 ≤ n + 1
      omega
    · cases n with
      | zero => omega
      | succ n =>
        have := putF_le (f := f) (v := v) (fs := r) (n := n) (by omega)
        show (putF f v r).length + 1 ≤ n + 1 + 1
        omega
theorem few {fs : List (Str × V)} {n : Nat} (h : fs.length ≤ n) (hn : n < 1000) : fs.length < 1000 := Nat.lt_of_le_of_lt h hn
def progF (L C M : Nat) (tb tt : Addr) : List (Str × V) := [("own_locks", vN L), ("own_cells", vN C), ("own_modes", vN M), ("own_bodies", .ref tb), ("own_threads", .ref tt)]
theorem progF_put (L C M : Nat) (tb tt : Addr) : putF "own_threads" (.ref tt) (putF "own_bodies" (.ref tb) (putF "own_modes" (vN M) (putF "own_cells" (vN C) (putF "own_locks" (vN L) [])))) = progF L C M tb tt := by kernel_rfl
theorem progF_bodies (L C M : Nat) (tb tt : Addr) : (progF L C M tb tt).lookup ("own_bodies" : Str) = some (V.ref tb) := by kernel_rfl
theorem progF_threads (L C M : Nat) (tb tt : Addr) : (progF L C M tb tt).lookup ("own_threads" : Str) = some (V.ref tt) := by kernel_rfl
theorem progF_m1 (L C M : Nat) (tb tt : Addr) : (progF L C M tb tt).lookup ("bodies" : Str) = none := by kernel_rfl
theorem progF_m2 (L C M : Nat) (tb tt : Addr) : (progF L C M tb tt).lookup ("threads" : Str) = none := by kernel_rfl
/-- the program at x -/
def ProgAt (CP : Addr) (H : Hp) (x : Addr) (d : Nat) (bodies : List (List Stm)) (th : List Nat) : Prop :=
  ∃ (dx tb tt : Addr) (ps : List Addr) (L C M : Nat), H x = some (.ins CP dx (progF L C M tb tt)) ∧ H tb = some (.tup (ps.map V.ref)) ∧ Paired (BA H d) ps bodies ∧ H tt = some (.tup (th.map vN))
theorem ProgAt.keep {CP x : Addr} {H H' : Hp} {d : Nat} {bodies : List (List Stm)} {th : List Nat} (h : ProgAt CP H x d bodies th) (s : Same H H') : ProgAt CP H' x d bodies th := by
  obtain ⟨dx, tb, tt, ps, L, C, M, h1, h2, h3, h4⟩ := h
  exact ⟨dx, tb, tt, ps, L, C, M, s _ _ h1, s _ _ h2, paired_mono (fun _ _ => BA_mono s.tups) h3, s _ _ h4⟩
section
variable {P : Program} {w : World} {K : PySem.W.Frag} {mg : Str → Option Value} {base : Heap} {kd pw CP CF : Addr} {f : Addr} {fd : FuncData}
structure PreProg (d : Nat) (L C M : Nat) (bodies : List (List Stm)) (th : List Nat) : Prop where
  L4 : L ≤ 4
  C4 : C ≤ 4
  M1 : 1 ≤ M
  M4 : M ≤ 4
  P1 : 1 ≤ bodies.length
  P6 : bodies.length ≤ 6
  ok : ∀ b ∈ bodies, okB ⟨L, C, M, bodies.length⟩ d b ∧ szB d b ≤ 1000
  sum : (bodies.map (szB d)).sum ≤ 60
  T1 : 1 ≤ th.length
  T4 : th.length ≤ 4
  th : ∀ t ∈ th, t < bodies.length
  d6 : d ≤ 6
def spProgInit (CP : Addr) (d : Nat) : Sp := fun vs H Q _ => ∃ (x dx : Addr) (L C M : Nat) (ab at_ : Addr) (ps : List Addr) (bodies : List (List Stm)) (th : List Nat), vs = [.ref x, vN L, vN C, vN M, .ref ab, .ref at_] ∧ H x = some (.ins CP dx []) ∧
  H ab = some (.lst (ps.map V.ref)) ∧ Paired (BA H d) ps bodies ∧ H at_ = some (.lst (th.map vN)) ∧ PreProg d L C M bodies th ∧ ∀ H', (∀ b o, H b = some o → b ≠ x → H' b = some o) → ProgAt CP H' x d bodies th → Q .non H'
abbrev st_Program_init : Stmt := inClass (top 34) 0
abbrev N_Program_init : List Str := ["self", "locks", "cells", "modes", "bodies", "threads"]
theorem sc_Program_init : FnScope N_Program_init ["self", "locks", "cells", "modes", "bodies", "threads"] (defScope st_Program_init) := ⟨rfl, rfl, rfl, by decide +kernel, rfl, by decide +kernel, by decide +kernel⟩
theorem ok_prog_init {d k : Nat} (F : IFun K CP "Program.__init__" st_Program_init f fd) (hm : mg "Program" = some (.ref CP)) (T : Txt K w mg kd pw CP CF) (c_is_number_to : Cal P w K mg base 3 "is_number_to" spIsNumberTo [])
    (c_are_bodies : Cal P w K mg base k "are_bodies" (spAreBodies d) []) (c_are_threads : Cal P w K mg base 4 "are_threads" spAreThreads []) (c_statements_in : Cal P w K mg base k "statements_in" (spStatementsIn d) []) (hk : 4 ≤ k) :
    Mak P w K mg base (k + 1) "Program" CP (spProgInit CP d) [] := by
  have b : Binds K fd ["self", "locks", "cells", "modes", "bodies", "threads"] [] := F.fn.binds fun _ _ _ _ _ _ us hl => match us, hl with | [_, _, _, _, _, _], _ => rfl
  refine mak_of F hm b (F.fn.ok sc_Program_init (fun vs H Q E h => ?_) (fun cdv A outer s H vs Q E hr h => ?_))
  · obtain ⟨x, dx, L, C, M, ab, at_, ps, bodies, th, rfl, _⟩ := h
    rfl
  obtain ⟨x, dx, L, C, M, ab, at_, ps, bodies, th, rfl, hx, hab, hps, hat, pre, q⟩ := h
  have hpl := paired_len hps
  refine ⟨_, ((pss_cons (ps_if (pt_not (pt_val (pe_c c_is_number_to hr (by omega) (by rfl) (pa_cons (pv 1) (pa_cons pe_int (pa_cons (pe_gc (by rfl) T.c_MOST_LOCKS) pa_nil)))))) (pss_one ps_never) pss_nil)
  (pss_cons (ps_if (pt_not (pt_val (pe_c c_is_number_to hr (by omega) (by rfl) (pa_cons (pv 2) (pa_cons pe_int (pa_cons (pe_gc (by rfl) T.c_MOST_CELLS) pa_nil)))))) (pss_one ps_never) pss_nil)
  (pss_cons (ps_if (pt_not (pt_val (pe_c c_is_number_to hr (by omega) (by rfl) (pa_cons (pv 3) (pa_cons pe_int (pa_cons (pe_gc (by rfl) T.c_MOST_MODES) pa_nil)))))) (pss_one ps_never) pss_nil)
  (pss_cons (ps_if (pt_not (pt_val (pe_c c_are_bodies hr (by omega) (by rfl) (pa_cons (pv 1) (pa_cons (pv 2) (pa_cons (pv 3) (pa_cons (pv 4) pa_nil))))))) (pss_one ps_never) pss_nil)
  (pss_cons (ps_if (pt_not (pt_val (pe_c c_are_threads hr (by omega) (by rfl) (pa_cons (pv 5) (pa_cons (pe_callB call_len_seq (by rfl) T.n_len bt_len (pa_cons (pv 4) pa_nil)) pa_nil))))) (pss_one ps_never) pss_nil)
  (pss_cons (ps_if (pt_cmpR op_gt (pe_c c_statements_in hr (by omega) (by rfl) (pa_cons (pv 4) pa_nil)) (pe_gc (by rfl) T.c_MOST_STATEMENTS) (nomark _)) (pss_one ps_never) pss_nil)
  (pss_cons (ps_fld (pv 0) (pv 1) rfl)
  (pss_cons (ps_fld (pv 0) (pv 2) rfl)
  (pss_cons (ps_fld (pv 0) (pv 3) rfl)
  (pss_cons (ps_fld (pv 0) (pe_callTy call_tuple_of (by rfl) T.n_tuple bt_tuple (pa_cons (pv 4) pa_nil)) rfl)
  (pss_one (ps_fld (pv 0) (pe_callTy call_tuple_of (by rfl) T.n_tuple bt_tuple (pa_cons (pv 5) pa_nil)) rfl))))))))))))), ?_⟩
  refine ⟨_, rfl, (L : Int), 0, 4, rfl, by omega, by omega, by have := pre.L4; omega, _, rfl, iteF ?_⟩
  refine ⟨_, rfl, (C : Int), 0, 4, rfl, by omega, by omega, by have := pre.C4; omega, _, rfl, iteF ?_⟩
  refine ⟨_, rfl, (M : Int), 1, 4, rfl, by omega, by have := pre.M1; omega, by have := pre.M4; omega, _, rfl, iteF ?_⟩
  refine ⟨_, rfl, _, rfl, _, rfl, _, rfl, L, C, M, ab, ps, bodies, rfl, hab, hps, pre.P1, pre.P6, pre.ok, pre.d6, fun H1 s1 => ⟨_, rfl, iteF ?_⟩⟩
  refine ⟨_, rfl, _, rfl, ab, _, rfl, .inl (SqL.of (s1 _ _ hab)), at_, th, bodies.length, congrArg (fun n : Nat => [V.ref at_, V.int (n : Int)]) (by rw [List.length_map, hpl]), s1 _ _ hat, pre.T1, pre.T4, pre.th, fun H2 s2 => ⟨_, rfl, iteF ?_⟩⟩
  have s12 := s1.trans s2
  refine ⟨_, rfl, ab, ps, bodies, rfl, s12 _ _ hab, paired_mono (fun _ _ => BA_mono s12.tups) hps, by have := pre.P6; omega, fun b hb => (pre.ok b hb).2, fun H3 s3 => ?_⟩
  have s13 := s12.trans s3
  refine ⟨_, _, rfl, rfl, _, rfl, ?_⟩
  rw [decide_eq_false (by have := pre.sum; omega)]
  refine iteF ?_
  have hx3 := s13 _ _ hx
  -- the fields
  refine ⟨_, rfl, _, rfl, x, CP, dx, _, rfl, hx3, T.isP.cl, T.nP _ (by decide +kernel), (by show 0 < 1000; decide), ?_⟩
  refine ⟨_, rfl, _, rfl, x, CP, dx, _, rfl, upd_same, T.isP.cl, T.nP _ (by decide +kernel), few (putF_le (Nat.le_refl 0)) (by decide), ?_⟩
  refine ⟨_, rfl, _, rfl, x, CP, dx, _, rfl, upd_same, T.isP.cl, T.nP _ (by decide +kernel), few (putF_le (putF_le (Nat.le_refl 0))) (by decide), ?_⟩
  rw [upd_upd, upd_upd]
  have nab : ab ≠ x := ne_of hab hx (by intro z; cases z)
  have nat : at_ ≠ x := ne_of hat hx (by intro z; cases z)
  refine ⟨_, rfl, ab, _, rfl, .inl ⟨SqL.of (by rw [upd_ne nab]; exact s13 _ _ hab), fun tb htb => ?_⟩⟩
  have ntb : x ≠ tb := ne_of_none upd_same htb
  refine ⟨_, rfl, x, CP, dx, _, rfl, (by rw [upd_ne ntb]; exact upd_same), T.isP.cl, T.nP _ (by decide +kernel), few (putF_le (putF_le (putF_le (Nat.le_refl 0)))) (by decide), ?_⟩
  have natb : at_ ≠ tb := ne_of_none (by rw [upd_ne nat]; exact s13 _ _ hat) htb
  refine ⟨_, rfl, at_, _, rfl, .inl ⟨SqL.of (by rw [upd_ne nat, upd_ne natb, upd_ne nat]; exact s13 _ _ hat), fun tt htt => ?_⟩⟩
  have ntt : x ≠ tt := ne_of_none upd_same htt
  have ntbt : tb ≠ tt := ne_of_none (by rw [upd_ne ntb.symm]; exact upd_same) htt
  refine ⟨_, rfl, x, CP, dx, _, rfl, (by rw [upd_ne ntt]; exact upd_same), T.isP.cl, T.nP _ (by decide +kernel), few (putF_le (putF_le (putF_le (putF_le (Nat.le_refl 0))))) (by decide), ?_⟩
  have keep : ∀ c o, H c = some o → c ≠ x → (upd (upd (upd (upd (upd H3 x (.ins CP dx (putF "own_modes" (vN M) (putF "own_cells" (vN C) (putF "own_locks" (vN L) []))))) tb (.tup (ps.map V.ref))) x (.ins CP dx (putF "own_bodies" (.ref tb) (putF "own_modes" (vN M) (putF "own_cells" (vN C) (putF "own_locks" (vN L) [])))))) tt (.tup (th.map vN))) x (.ins CP dx (putF "own_threads" (.ref tt) (putF "own_bodies" (.ref tb) (putF "own_modes" (vN M) (putF "own_cells" (vN C) (putF "own_locks" (vN L) []))))))) c = some o := fun c o e hc => by
    have e3 := s13 _ _ e
    have n1 : c ≠ tb := ne_of_none (by rw [upd_ne hc]; exact e3) htb
    have n2 : c ≠ tt := ne_of_none (by rw [upd_ne hc, upd_ne n1, upd_ne hc]; exact e3) htt
    rw [upd_ne hc, upd_ne n2, upd_ne hc, upd_ne n1, upd_ne hc]
    exact e3
  refine q _ keep ⟨dx, tb, tt, ps, L, C, M, ?_, ?_, ?_, ?_⟩
  · rw [upd_same, progF_put]
  · rw [upd_ne ntb.symm, upd_ne ntbt, upd_ne ntb.symm, upd_same]
  · refine paired_mono (fun p b hb => BA_mono (fun c ys e => keep c _ e (ne_of e hx (by intro z; cases z))) hb) hps
  · rw [upd_ne ntt.symm, upd_same]
def spBodies (CP : Addr) (d : Nat) : Sp := fun vs H Q _ => ∃ (x : Addr) (bodies : List (List Stm)) (th : List Nat), vs = [.ref x] ∧ ProgAt CP H x d bodies th ∧ ∀ (r : Addr) (ps : List Addr) (H' : Hp), Same H H' → H' r = some (.lst (ps.map V.ref)) → H r = none → Paired (BA H' d) ps bodies → Q (.ref r) H'
abbrev st_Program_bodies : Stmt := inClass (top 34) 4
abbrev N_Program_bodies : List Str := ["self"]
theorem sc_Program_bodies : FnScope N_Program_bodies ["self"] (defScope st_Program_bodies) := ⟨rfl, rfl, rfl, by decide +kernel, rfl, by decide +kernel, by decide +kernel⟩
theorem ok_bodies {d : Nat} (F : MFun K CP "bodies" "Program.bodies" st_Program_bodies f fd) (T : Txt K w mg kd pw CP CF) : Met P w K mg base 1 CP "bodies" (spBodies CP d) [] := by
  have b : Binds K fd ["self"] [] := F.fn.binds fun _ _ _ _ _ _ us hl => match us, hl with | [_], _ => rfl
  refine met_of T.isP.cl F b (F.fn.ok sc_Program_bodies (fun vs H Q E h => ?_) (fun cdv A outer s H vs Q E hr h => ?_))
  · obtain ⟨x, bodies, th, rfl, _⟩ := h
    rfl
  obtain ⟨x, bodies, th, rfl, ⟨dx, tb, tt, ps, L, C, M, h1, h2, h3, h4⟩, q⟩ := h
  refine ⟨_, ((pss_one (ps_ret (pe_callTy call_list_of (by rfl) T.n_list bt_list (pa_cons (pe_fld (pv 0) rfl) pa_nil))))), ?_⟩
  refine ⟨_, rfl, x, CP, dx, _, _, rfl, h1, T.isP.cl, T.nP _ (by decide +kernel), progF_bodies L C M tb tt, tb, _, rfl, .inr (SqT.of h2), fun r hr => ?_⟩
  exact q r ps _ (same_new hr _) upd_same hr (paired_mono (fun _ _ => BA_mono (same_new hr _).tups) h3)
def spThreads (CP : Addr) (d : Nat) : Sp := fun vs H Q _ => ∃ (x : Addr) (bodies : List (List Stm)) (th : List Nat), vs = [.ref x] ∧ ProgAt CP H x d bodies th ∧ ∀ (r : Addr) (H' : Hp), Same H H' → H' r = some (.lst (th.map vN)) → H r = none → Q (.ref r) H'
abbrev st_Program_threads : Stmt := inClass (top 34) 5
abbrev N_Program_threads : List Str := ["self"]
theorem sc_Program_threads : FnScope N_Program_threads ["self"] (defScope st_Program_threads) := ⟨rfl, rfl, rfl, by decide +kernel, rfl, by decide +kernel, by decide +kernel⟩
theorem ok_threads {d : Nat} (F : MFun K CP "threads" "Program.threads" st_Program_threads f fd) (T : Txt K w mg kd pw CP CF) : Met P w K mg base 1 CP "threads" (spThreads CP d) [] := by
  have b : Binds K fd ["self"] [] := F.fn.binds fun _ _ _ _ _ _ us hl => match us, hl with | [_], _ => rfl
  refine met_of T.isP.cl F b (F.fn.ok sc_Program_threads (fun vs H Q E h => ?_) (fun cdv A outer s H vs Q E hr h => ?_))
  · obtain ⟨x, bodies, th, rfl, _⟩ := h
    rfl
  obtain ⟨x, bodies, th, rfl, ⟨dx, tb, tt, ps, L, C, M, h1, h2, h3, h4⟩, q⟩ := h
  refine ⟨_, ((pss_one (ps_ret (pe_callTy call_list_of (by rfl) T.n_list bt_list (pa_cons (pe_fld (pv 0) rfl) pa_nil))))), ?_⟩
  refine ⟨_, rfl, x, CP, dx, _, _, rfl, h1, T.isP.cl, T.nP _ (by decide +kernel), progF_threads L C M tb tt, tt, _, rfl, .inr (SqT.of h4), fun r hr => ?_⟩
  exact q r _ (same_new hr _) upd_same hr
def spWantProgram (CP : Addr) (d : Nat) : Sp := fun vs H Q _ => ∃ (x : Addr) (bodies : List (List Stm)) (th : List Nat), vs = [.ref x] ∧ ProgAt CP H x d bodies th ∧ Q (.ref x) H
abbrev st_want_program : Stmt := top 35
abbrev N_want_program : List Str := ["value"]
theorem sc_want_program : FnScope N_want_program ["value"] (defScope st_want_program) := ⟨rfl, rfl, rfl, by decide +kernel, rfl, by decide +kernel, by decide +kernel⟩
theorem ok_want_program {d : Nat} (F : GFun K mg "want_program" st_want_program f fd) (T : Txt K w mg kd pw CP CF) : Cal P w K mg base 1 "want_program" (spWantProgram CP d) [] := by
  have b : Binds K fd ["value"] [] := F.fn.binds fun _ _ _ _ _ _ us hl => match us, hl with | [_], _ => rfl
  refine cal_of F b (F.fn.ok sc_want_program (fun vs H Q E h => ?_) (fun cdv A outer s H vs Q E hr h => ?_))
  · obtain ⟨x, bodies, th, rfl, _⟩ := h
    rfl
  obtain ⟨x, bodies, th, rfl, ⟨dx, tb, tt, ps, L, C, M, h1, h2, h3, h4⟩, q⟩ := h
  refine ⟨_, ((pss_cons (ps_if (pt_not (pt_val (pe_callB (call_isC T.isP) (by rfl) T.n_isinstance bt_isinstance (pa_cons (pv 0) (pa_cons (pe_gc (by rfl) T.c_Program) pa_nil))))) (pss_one ps_never) pss_nil)
  (pss_one (ps_ret (pv 0))))), ?_⟩
  refine ⟨_, rfl, x, dx, _, rfl, h1, _, rfl, iteF ?_⟩
  exact ⟨_, rfl, q⟩
end
end Dp
namespace Dp
open PySem L2
open C8 (Cal Met Mak pe_c pe_mk pe_mt pe_mt0 pe_gc InsC call_isC)
/-! ### what is being laid, in the heap -/
def Mv.tup (m : Mv) : List V := [vN m.near, .str m.kind, m.what, vN m.far]
structure Fr (S : List Addr) (H H' : Hp) : Prop where
  but : But S H H'
  tups : Tups H H'
theorem Fr.refl (S : List Addr) (H : Hp) : Fr S H H := ⟨But.refl S H, Tups.refl H⟩
theorem Fr.trans {S : List Addr} {H H1 H2 : Hp} (a : Fr S H H1) (b : Fr S H1 H2) : Fr S H H2 := ⟨a.but.trans b.but, a.tups.trans b.tups⟩
theorem Fr.same {S : List Addr} {H H' : Hp} (s : Same H H') : Fr S H H' := ⟨s.but S, s.tups⟩
theorem Fr.mono {S T : List Addr} {H H' : Hp} (a : Fr S H H') (h : ∀ b ∈ S, b ∈ T) : Fr T H H' := ⟨a.but.mono h, a.tups⟩
theorem Fr.lst {S : List Addr} {H : Hp} {p : Addr} {ys : List V} (h : H p = some (.lst ys)) (hp : p ∈ S) (o : HO) : Fr S H (upd H p o) := ⟨but_upd hp o, tups_lst h⟩
theorem Fr.ext {S : List Addr} {H : Hp} {p : Addr} {φ : Heap → Prop} (h : H p = some (.ext φ)) (hp : p ∈ S) (o : HO) : Fr S H (upd H p o) := ⟨but_upd hp o, tups_upd fun xs z => by rw [h] at z; cases z⟩
section
variable (P : Program) (w : World)
structure LayAt (H : Hp) (am ao ap : Addr) (st : LS) : Prop where
  own : H ao = some (.lst (st.own.map vN))
  mv : ∃ rs : List Addr, H am = some (.lst (rs.map V.ref)) ∧ Paired (fun r m => H r = some (.tup (Mv.tup m))) rs st.mv
  pa : NDict P w H ap st.pa st.pn
  ne : am ≠ ao
end
section
variable {P : Program} {w : World} {H H' : Hp} {am ao ap : Addr} {st : LS}
theorem LayAt.same (h : LayAt P w H am ao ap st) (s : Same H H') : LayAt P w H' am ao ap st := by
  obtain ⟨rs, h1, h2⟩ := h.mv
  obtain ⟨φ, hφ⟩ := h.pa.ext
  exact ⟨s _ _ h.own, ⟨rs, s _ _ h1, paired_mono (fun _ _ e => s _ _ e) h2⟩, h.pa.keep (by rw [hφ]; exact s _ _ hφ) s.tups, h.ne⟩
theorem LayAt.next (h : LayAt P w H am ao ap st) (pr : Nat) (l : Prop) : LayAt P w (upd H ao (.lst ((st.own ++ [pr]).map vN))) am ao ap (st.next pr l) := by
  obtain ⟨rs, h1, h2⟩ := h.mv
  obtain ⟨φ, hφ⟩ := h.pa.ext
  have t := tups_lst (o := .lst ((st.own ++ [pr]).map vN)) h.own
  refine ⟨upd_same, ⟨rs, by rw [upd_ne h.ne]; exact h1, paired_mono (fun r m e => t _ _ e) h2⟩, h.pa.keep (upd_ne (ne_of hφ h.own (by intro z; cases z))) t, h.ne⟩
theorem LayAt.nextFr (h : LayAt P w H am ao ap st) (pr : Nat) : Fr [am, ao, ap] H (upd H ao (.lst ((st.own ++ [pr]).map vN))) := Fr.lst h.own (by simp) _
theorem paired_snoc {α β : Type} {F : α → β → Prop} {a : α} {b : β} : ∀ {l : List α} {m : List β}, Paired F l m → F a b → Paired F (l ++ [a]) (m ++ [b])
  | _, _, .nil, h => .cons h .nil
  | _, _, .cons r t, h => .cons r (paired_snoc t h)
/-- a move is put behind the others: its tuple stands at p -/
theorem LayAt.move (h : LayAt P w H am ao ap st) {m : Mv} {p : Addr} {rs : List Addr} (hp : H p = some (.tup (Mv.tup m))) (h1 : H am = some (.lst (rs.map V.ref))) (h2 : Paired (fun r m => H r = some (.tup (Mv.tup m))) rs st.mv) :
    LayAt P w (upd H am (.lst (rs.map V.ref ++ [V.ref p]))) am ao ap (st.move m) ∧ Fr [am, ao, ap] H (upd H am (.lst (rs.map V.ref ++ [V.ref p]))) := by
  obtain ⟨φ, hφ⟩ := h.pa.ext
  have t := tups_lst (o := .lst (rs.map V.ref ++ [V.ref p])) h1
  refine ⟨⟨by rw [upd_ne h.ne.symm]; exact h.own, ⟨rs ++ [p], by rw [upd_same, List.map_append]; rfl, paired_snoc (paired_mono (fun r m e => t _ _ e) h2) (t _ _ hp)⟩, h.pa.keep (upd_ne (ne_of hφ h1 (by intro z; cases z))) t, h.ne⟩, Fr.lst h1 (by simp) _⟩
/-- a path is put -/
theorem LayAt.path (h : LayAt P w H am ao ap st) {k : Nat × List Nat} {v : Nat} {φ : Heap → Prop} (d : NDict P w (upd H ap (.ext φ)) ap (fun l => if l = k then some v else st.pa l) (st.pn + 1)) :
    LayAt P w (upd H ap (.ext φ)) am ao ap (st.path k v) ∧ Fr [am, ao, ap] H (upd H ap (.ext φ)) := by
  obtain ⟨rs, h1, h2⟩ := h.mv
  obtain ⟨ψ, hψ⟩ := h.pa.ext
  have fr : Fr [am, ao, ap] H (upd H ap (.ext φ)) := Fr.ext hψ (by simp) _
  refine ⟨⟨?_, ⟨rs, ?_, paired_mono (fun r m e => fr.tups _ _ e) h2⟩, d, h.ne⟩, fr⟩
  · rw [upd_ne (ne_of h.own hψ (by intro z; cases z))]
    exact h.own
  · rw [upd_ne (ne_of h1 hψ (by intro z; cases z))]
    exact h1
end
/-- the flow's object -/
def FlowIn (CF : Addr) (H : Hp) (x am ao ap : Addr) : Prop := ∃ (dx : Addr) (fs : List (Str × V)), H x = some (.ins CF dx fs) ∧ fs.lookup ("own_moves" : Str) = some (.ref am) ∧ fs.lookup ("own_procedures" : Str) = some (.ref ao) ∧ fs.lookup ("own_paths" : Str) = some (.ref ap)
theorem FlowIn.fr {P : Program} {w : World} {CF : Addr} {H H' : Hp} {x am ao ap : Addr} {st : LS} (h : FlowIn CF H x am ao ap) (l : LayAt P w H am ao ap st) (f : Fr [am, ao, ap] H H') : FlowIn CF H' x am ao ap := by
  obtain ⟨dx, fs, h1, r⟩ := h
  obtain ⟨rs, m1, _⟩ := l.mv
  obtain ⟨φ, hφ⟩ := l.pa.ext
  refine ⟨dx, fs, f.but _ _ h1 ?_, r⟩
  intro z
  have z' : x = am ∨ x = ao ∨ x = ap := by simpa using z
  rcases z' with z | z | z
  · exact ne_of h1 m1 (by intro z; cases z) z
  · exact ne_of h1 l.own (by intro z; cases z) z
  · exact ne_of h1 hφ (by intro z; cases z) z
theorem FlowIn.same {CF : Addr} {H H' : Hp} {x am ao ap : Addr} (h : FlowIn CF H x am ao ap) (s : Same H H') : FlowIn CF H' x am ao ap := let ⟨dx, fs, h1, r⟩ := h; ⟨dx, fs, s _ _ h1, r⟩
/-! ### tuple + tuple, whichever -/
def rCatB (K : PySem.W.Frag) : V → V → Hp → VK → Prop := fun x y H Q => ∃ (a b : Addr) (xs ys : List V), x = .ref a ∧ y = .ref b ∧ SqT K H a xs ∧ H b = some (.tup ys) ∧ ys ≠ [] ∧ xs.length + ys.length ≤ sizeLine ∧ ∀ q H', Same H H' → H' q = some (.tup (xs ++ ys)) → Q (.ref q) H'
theorem op_catB {X : Cx} : OpR X (binaryOp .Add) (rCatB X.K) := fun pins s σ H x y u v Q I rx ry h => by
  obtain ⟨a, b, xs, ys, ex, ey, ha, hb, hn, hl, q⟩ := h
  refine op_catA pins s σ H x y u v Q I rx ry ⟨a, b, xs, ys, ex, ey, ha, SqT.of hb, hl, fun e => ?_, fun _ e => absurd e hn, fun _ _ p hp => q p _ (same_new hp _) upd_same⟩
  refine q b H (Same.refl H) ?_
  rw [e]
  exact hb
theorem hu9_of {A : Around} {k : Nat} (hr : Room k A) : A.units + 9 < cLine := by
  have := hr.un
  omega
section
variable {P : Program} {w : World} {K : PySem.W.Frag} {mg : Str → Option Value} {base : Heap} {kd pw CP CF : Addr} {f : Addr} {fd : FuncData}
/-! ### next_place, lay_move -/
def spNext (P : Program) (w : World) (CF : Addr) : Sp := fun vs H Q _ => ∃ (x am ao ap : Addr) (pr : Nat) (st : LS), vs = [.ref x, vN pr] ∧ FlowIn CF H x am ao ap ∧ LayAt P w H am ao ap st ∧ st.wt ≤ 200000 ∧
  ∀ H', (∀ l, LayAt P w H' am ao ap (st.next pr l)) → Fr [am, ao, ap] H H' → Q (vN st.own.length) H'
def spMove (P : Program) (w : World) (CF : Addr) : Sp := fun vs H Q _ => ∃ (x am ao ap : Addr) (m : Mv) (st : LS), vs = [.ref x, vN m.near, .str m.kind, m.what, vN m.far] ∧ FlowIn CF H x am ao ap ∧ LayAt P w H am ao ap st ∧ st.wt ≤ 200000 ∧
  ∀ H', LayAt P w H' am ao ap (st.move m) → Fr [am, ao, ap] H H' → Q .non H'
abbrev st_next_place : Stmt := top 40
abbrev N_next_place : List Str := ["flow", "procedure"]
theorem sc_next_place : FnScope N_next_place ["flow", "procedure"] (defScope st_next_place) := ⟨rfl, rfl, rfl, by decide +kernel, rfl, by decide +kernel, by decide +kernel⟩
theorem ok_next_place (F : GFun K mg "next_place" st_next_place f fd) (T : Txt K w mg kd pw CP CF) : Cal P w K mg base 1 "next_place" (spNext P w CF) [] := by
  have b : Binds K fd ["flow", "procedure"] [] := F.fn.binds fun _ _ _ _ _ _ us hl => match us, hl with | [_, _], _ => rfl
  refine cal_of F b (F.fn.ok sc_next_place (fun vs H Q E h => ?_) (fun cdv A outer s H vs Q E hr h => ?_))
  · obtain ⟨x, am, ao, ap, pr, st, rfl, _⟩ := h
    rfl
  obtain ⟨x, am, ao, ap, pr, st, rfl, ⟨dx, fs, hx, f1, f2, f3⟩, L, hw, q⟩ := h
  have hlen : st.own.length ≤ 200000 := by unfold LS.wt at hw; omega
  refine ⟨_, ((pss_cons (ps_expr (pe_bm PySem.F.plainAttrs_list PySem.F.slot_list_append PySem.F.type_list_append mt_append (pe_fld (pv 0) rfl) (pa_cons (pv 1) pa_nil)))
  (pss_one (ps_ret (pe_op op_sub (pe_callB call_len_seq (by rfl) T.n_len bt_len (pa_cons (pe_fld (pv 0) rfl) pa_nil)) pe_int))))), ?_⟩
  refine ⟨_, rfl, x, CF, dx, fs, _, rfl, hx, T.isF, T.nF _ (by decide +kernel), f2, .inl ⟨rfl, _, SqL.of L.own⟩, _, rfl, ao, _, _, rfl, rfl, L.own, lt_sizeLine (by rw [List.length_map]; omega), ?_⟩
  have nx : x ≠ ao := ne_of hx L.own (by intro z; cases z)
  refine ⟨_, rfl, x, CF, dx, fs, _, rfl, (by rw [upd_ne nx]; exact hx), T.isF, T.nF _ (by decide +kernel), f2, ao, _, rfl, .inl (SqL.of upd_same), _, _, rfl, rfl, ?_⟩
  have e : st.own.map vN ++ [vN pr] = (st.own ++ [pr]).map vN := by rw [List.map_append]; rfl
  have e2 : (((st.own.map vN ++ [vN pr]).length : Nat) : Int) - 1 = (st.own.length : Int) := by
    rw [List.length_append, List.length_map, List.length_singleton]
    omega
  show Q (.int ((((st.own.map vN ++ [vN pr]).length : Nat) : Int) - 1)) _
  rw [e2, e]
  exact q _ (fun l => L.next pr l) (L.nextFr pr)
abbrev st_lay_move : Stmt := top 41
abbrev N_lay_move : List Str := ["flow", "near", "kind", "what", "far"]
theorem sc_lay_move : FnScope N_lay_move ["flow", "near", "kind", "what", "far"] (defScope st_lay_move) := ⟨rfl, rfl, rfl, by decide +kernel, rfl, by decide +kernel, by decide +kernel⟩
theorem ok_lay_move (F : GFun K mg "lay_move" st_lay_move f fd) (T : Txt K w mg kd pw CP CF) : Cal P w K mg base 1 "lay_move" (spMove P w CF) [] := by
  have b : Binds K fd ["flow", "near", "kind", "what", "far"] [] := F.fn.binds fun _ _ _ _ _ _ us hl => match us, hl with | [_, _, _, _, _], _ => rfl
  refine cal_of F b (F.fn.ok sc_lay_move (fun vs H Q E h => ?_) (fun cdv A outer s H vs Q E hr h => ?_))
  · obtain ⟨x, am, ao, ap, m, st, rfl, _⟩ := h
    rfl
  obtain ⟨x, am, ao, ap, m, st, rfl, ⟨dx, fs, hx, f1, f2, f3⟩, L, hw, q⟩ := h
  have hlen : st.mv.length ≤ 200000 := by unfold LS.wt at hw; omega
  obtain ⟨rs, h1, h2⟩ := L.mv
  have hrs := paired_len h2
  refine ⟨_, ((pss_one (ps_expr (pe_bm PySem.F.plainAttrs_list PySem.F.slot_list_append PySem.F.type_list_append mt_append (pe_fld (pv 0) rfl) (pa_cons (pe_tup (pa_cons (pv 1) (pa_cons (pv 2) (pa_cons (pv 3) (pa_cons (pv 4) pa_nil))))) pa_nil))))), ?_⟩
  refine ⟨_, rfl, x, CF, dx, fs, _, rfl, hx, T.isF, T.nF _ (by decide +kernel), f1, .inl ⟨rfl, _, SqL.of h1⟩, ?_⟩
  refine ⟨_, rfl, _, rfl, _, rfl, _, rfl, by show 4 ≤ sizeLine; decide, fun p hp => ?_⟩
  have s1 := same_new hp (.tup (Mv.tup m))
  refine ⟨am, _, _, rfl, rfl, s1 _ _ h1, lt_sizeLine (by rw [List.length_map]; omega), ?_⟩
  have z := (L.same s1).move (m := m) (p := p) (rs := rs) upd_same (s1 _ _ h1) (paired_mono (fun _ _ e => s1 _ _ e) h2)
  exact q _ z.1 ((Fr.same s1).trans z.2)
/-! ### lay_body, lay_statement, lay_hold -/
structure LayIn (P : Program) (w : World) (CF : Addr) (H : Hp) (x am ao ap : Addr) (st : LS) (room : Nat) (pt en : Addr) (path : List Nat) (near far : Nat) : Prop where
  fl : FlowIn CF H x am ao ap
  la : LayAt P w H am ao ap st
  wt : st.wt + room ≤ 200002
  pt : H pt = some (.tup (path.map vN))
  en : H en = some (.tup [vN near, vN far])
  pl : path.length ≤ 1000
def spLayBody (P : Program) (w : World) (CF : Addr) (d : Nat) : Sp := fun vs H Q _ => ∃ (E : List Nat) (r : Prop) (x am ao ap : Addr) (st : LS) (pt en bp : Addr) (pr : Nat) (path : List Nat) (near far : Nat) (b : List Stm), vs = [.ref x, vN pr, .ref pt, .ref bp, .ref en] ∧
  LayIn P w CF H x am ao ap st (9 * szB d b + 3) pt en path near far ∧ BA H d bp b ∧ path.length + 2 * d + 1 ≤ 1000 ∧
  ∀ H', LayAt P w H' am ao ap (layB E pr d path near far r b st) → Fr [am, ao, ap] H H' → Q .non H'
def spLayStm (P : Program) (w : World) (CF : Addr) (d : Nat) : Sp := fun vs H Q _ => ∃ (E : List Nat) (r : Prop) (x am ao ap : Addr) (st : LS) (pt en : Addr) (v : V) (pr : Nat) (path : List Nat) (near far : Nat) (s : Stm), vs = [.ref x, vN pr, .ref pt, v, .ref en] ∧
  LayIn P w CF H x am ao ap st (9 * szS d s) pt en path near far ∧ SA H d v s ∧ path.length + 2 * d ≤ 1000 ∧
  ∀ H', LayAt P w H' am ao ap (layS E pr d r s path near far st) → Fr [am, ao, ap] H H' → Q .non H'
theorem drop_cons {α : Type} {l : List α} {i : Nat} {x : α} (h : l[i]? = some x) : l.drop i = x :: l.drop (i + 1) := by
  obtain ⟨h1, h2⟩ := List.getElem?_eq_some_iff.mp h
  rw [List.drop_eq_getElem_cons h1, h2]
/-- one statement of a body: its path, its laying -/
def tTurnB (K : PySem.W.Frag) (P : Program) (w : World) (CF : Addr) (d : Nat) : TS :=
  tSeq (tAsg (tOp (rCatB K) (tVar 2) (tTup (tCons (tVar 7) tNil))) (gName 10))
    (tSeq (sNPut P w (tFld K (tVar 0) "own_paths") (tTup (tCons (tVar 1) (tCons (tVar 10) tNil))) (tVar 5))
      (tSeq (tDrop (tCall (spLayStm P w CF d) [] C8.E0 (tCons (tVar 0) (tCons (tVar 1) (tCons (tVar 10) (tCons (tVar 8) (tCons (tTup (tCons (tVar 5) (tCons (tVar 9) tNil))) tNil)))))))
        (tAsg (tVar 9) (gName 5))))
theorem map_vN_snoc (p : List Nat) (i : Nat) : p.map vN ++ [V.int (i : Int)] = (p ++ [i]).map vN := by rw [List.map_append]; rfl
theorem body_turn {d : Nat} {En : List Nat} {r : Prop} {D : Ends} {H : Hp} {x am ao ap pt bp en : Addr} {st : LS} {pr i ni to far : Nat} {path : List Nat} {v : V} {sm : Stm} {n10 : Option V} (T : Txt K w mg kd pw CP CF)
    (hfl : FlowIn CF H x am ao ap) (L : LayAt P w H am ao ap st) (hw : st.wt + 1 + 9 * szS d sm ≤ 200002) (hpt : H pt = some (.tup (path.map vN))) (hsa : SA H d v sm) (hpl : path.length + 2 * d + 1 ≤ 1000)
    (hD : ∀ H' q, Fr [am, ao, ap] H H' → LayAt P w H' am ao ap (layS En pr d r sm (path ++ [i]) ni to (st.path (pr, path ++ [i]) ni)) →
      D.nx [some (.ref x), some (vN pr), some (.ref pt), some (.ref bp), some (.ref en), some (vN to), some (vN far), some (.int (i : Int)), some v, some (vN to), some (.ref q)] H') :
    tTurnB K P w CF d D [some (.ref x), some (vN pr), some (.ref pt), some (.ref bp), some (.ref en), some (vN ni), some (vN far), some (.int (i : Int)), some v, some (vN to), n10] H := by
  -- own_path = path + (position,)
  refine ⟨_, rfl, _, rfl, by show 1 ≤ sizeLine; decide, fun p1 hp1 => ?_⟩
  have s1 := same_new hp1 (.tup [.int (i : Int)])
  refine ⟨pt, p1, _, _, rfl, rfl, SqT.of (s1 _ _ hpt), upd_same, (fun z => by cases z), (by rw [List.length_map]; show path.length + 1 ≤ sizeLine; exact Nat.le_of_lt (lt_sizeLine (by omega))), fun q H2 s2 hq => ?_⟩
  rw [map_vN_snoc] at hq
  have s12 := s1.trans s2
  obtain ⟨dx, fs, hx, f1, f2, f3⟩ := hfl.same s12
  have L2 := L.same s12
  -- flow.own_paths[(procedure, own_path)] = here
  refine ⟨_, rfl, _, rfl, x, CF, dx, fs, _, rfl, hx, T.isF, T.nF _ (by decide +kernel), f3, _, rfl, _, rfl, by show 2 ≤ sizeLine; decide, fun p3 hp3 => ?_⟩
  have s3 := same_new hp3 (.tup [vN pr, .ref q])
  have L3 := L2.same s3
  refine ⟨ap, p3, q, (pr, path ++ [i]), ni, _, _, rfl, rfl, rfl, L3.pa, lt_sizeLine (by have := szS_pos (d := d) (s := sm); unfold LS.wt at hw; omega), upd_same, s3 _ _ hq, fun φ dn => ?_⟩
  have z := L3.path dn
  have fr3 : Fr [am, ao, ap] H (upd (upd H2 p3 (.tup [vN pr, .ref q])) ap (.ext φ)) := (Fr.same (s12.trans s3)).trans z.2
  generalize upd (upd H2 p3 (.tup [vN pr, .ref q])) ap (.ext φ) = H4 at z fr3
  have hq4 : H4 q = some (.tup ((path ++ [i]).map vN)) := z.2.tups _ _ (s3 _ _ hq)
  -- lay_statement(flow, procedure, own_path, statement, (here, there))
  refine ⟨_, rfl, _, rfl, _, rfl, _, rfl, _, rfl, _, rfl, by show 2 ≤ sizeLine; decide, fun p5 hp5 => ?_⟩
  have s5 := same_new hp5 (.tup [vN ni, vN to])
  refine ⟨En, r, x, am, ao, ap, _, q, p5, v, pr, path ++ [i], ni, to, sm, rfl, ⟨(hfl.fr L fr3).same s5, z.1.same s5, by rw [wt_path]; omega, s5 _ _ hq4, upd_same, by rw [List.length_append, List.length_singleton]; omega⟩, SA_mono (fr3.trans (Fr.same s5)).tups d hsa, by rw [List.length_append, List.length_singleton]; omega, fun H6 L6 fr6 => ?_⟩
  exact ⟨_, rfl, hD H6 q (fr3.trans ((Fr.same s5).trans fr6)) L6⟩
abbrev st_lay_body : Stmt := top 42
abbrev N_lay_body : List Str := ["flow", "procedure", "path", "body", "ends", "here", "far", "position", "statement", "there", "own_path"]
theorem sc_lay_body : FnScope N_lay_body ["flow", "procedure", "path", "body", "ends"] (defScope st_lay_body) := ⟨rfl, rfl, rfl, by decide +kernel, rfl, by decide +kernel, by decide +kernel⟩
theorem ok_lay_body {d k : Nat} (F : GFun K mg "lay_body" st_lay_body f fd) (T : Txt K w mg kd pw CP CF) (c_next_place : Cal P w K mg base 1 "next_place" (spNext P w CF) []) (c_lay_move : Cal P w K mg base 1 "lay_move" (spMove P w CF) []) (c_lay_statement : Cal P w K mg base k "lay_statement" (spLayStm P w CF d) []) (hk : 1 ≤ k) :
    Cal P w K mg base (k + 1) "lay_body" (spLayBody P w CF d) [] := by
  have b : Binds K fd ["flow", "procedure", "path", "body", "ends"] [] := F.fn.binds fun _ _ _ _ _ _ us hl => match us, hl with | [_, _, _, _, _], _ => rfl
  refine cal_of F b (F.fn.ok sc_lay_body (fun vs H Q E h => ?_) (fun cdv A outer s H vs Q E hr h => ?_))
  · obtain ⟨_, _, x, am, ao, ap, st, pt, en, bp, pr, path, near, far, b, rfl, _⟩ := h
    rfl
  obtain ⟨En, r, x, am, ao, ap, st, pt, en, bp, pr, path, near, far, bd, rfl, I, hB, hpd, q⟩ := h
  have hu9 := hu9_of hr
  obtain ⟨xs, hbp, hx⟩ := hB
  have hlen := paired_len hx
  have hszl := szL_len (d := d) (b := bd)
  have hwt := I.wt
  refine ⟨_, ((pss_cons (ps_asg (pv 4) (pg_tup rfl (pgs_cons (pg_name (i := 5) sc_lay_body.nd rfl (Or.inl rfl)) (pgs_cons (pg_name (i := 6) sc_lay_body.nd rfl (Or.inl rfl)) pgs_nil))))
  (pss_cons (ps_if (pt_cmpR op_eq (pe_callB call_len_seq (by rfl) T.n_len bt_len (pa_cons (pv 3) pa_nil)) pe_int (nomark _)) (pss_one (ps_expr (pe_c c_lay_move hr (by omega) (by rfl) (pa_cons (pv 0) (pa_cons (pv 5) (pa_cons pe_str (pa_cons pe_non (pa_cons (pv 6) pa_nil)))))))) pss_nil)
  (pss_one (ps_for PassesOwn.never rfl (pi_enumT (by rfl) T.n_enumerate (pa_cons (pv 3) pa_nil)) (pg_tup rfl (pgs_cons (pg_name (i := 7) sc_lay_body.nd rfl (Or.inl rfl)) (pgs_cons (pg_name (i := 8) sc_lay_body.nd rfl (Or.inl rfl)) pgs_nil)))
  (pss_cons (ps_set (i := 9) sc_lay_body.nd rfl (Or.inl rfl) (pe_ifExp (pt_cmpR op_eq (pv 7) (pe_op op_sub (pe_callB call_len_seq (by rfl) T.n_len bt_len (pa_cons (pv 3) pa_nil)) pe_int) (nomark _)) (pv 6) (pe_c c_next_place hr (by omega) (by rfl) (pa_cons (pv 0) (pa_cons (pv 1) pa_nil)))))
  (pss_cons (ps_set (i := 10) sc_lay_body.nd rfl (Or.inl rfl) (pe_op op_catB (pv 2) (pe_tup (pa_cons (pv 7) pa_nil))))
  (pss_cons (ps_nput hu9 (pe_fld (pv 0) rfl) (pe_tup (pa_cons (pv 1) (pa_cons (pv 10) pa_nil))) (pv 5) rfl)
  (pss_cons (ps_expr (pe_c c_lay_statement hr (by omega) (by rfl) (pa_cons (pv 0) (pa_cons (pv 1) (pa_cons (pv 10) (pa_cons (pv 8) (pa_cons (pe_tup (pa_cons (pv 5) (pa_cons (pv 9) pa_nil))) pa_nil)))))))
  (pss_one (ps_set (i := 5) sc_lay_body.nd rfl (Or.inl rfl) (pv 9)))))))))))), ?_⟩
  -- here, far = ends
  refine ⟨_, rfl, en, _, rfl, SqT.of I.en, rfl, _, _, rfl, _, _, rfl, rfl, ?_⟩
  -- if len(body) == 0
  refine ⟨_, rfl, bp, _, rfl, .inr (SqT.of hbp), rfl, _, rfl, ?_⟩
  have main : ∀ (H1 : Hp) (st0 : LS), Fr [am, ao, ap] H H1 → LayAt P w H1 am ao ap st0 → st0.wt + 9 * szB d bd ≤ 200000 → layList (layS En pr d) (canS En d) pr far path r bd 0 near st0 = layB En pr d path near far r bd st →
      tFor (iEnumT K (tCons (tVar 3) tNil)) (gTup K 2 (gCons (gName 7) (gCons (gName 8) gNil)))
        (tSeq (tAsg (tIf (tTest (tOp rEq (tVar 7) (tOp (rI0 fun i j => .int (i - j)) (tCB (fun xs H Q => ∃ p ys, xs = [.ref p] ∧ (SqL K H p ys ∨ SqT K H p ys) ∧ Q (.int ys.length) H) (tCons (tVar 3) tNil)) (tC (.int 1))))) (tVar 6) (tCall (spNext P w CF) [] C8.E0 (tCons (tVar 0) (tCons (tVar 1) tNil)))) (gName 9))
          (tSeq (tAsg (tOp (rCatB K) (tVar 2) (tTup (tCons (tVar 7) tNil))) (gName 10))
            (tSeq (sNPut P w (tFld K (tVar 0) "own_paths") (tTup (tCons (tVar 1) (tCons (tVar 10) tNil))) (tVar 5))
              (tSeq (tDrop (tCall (spLayStm P w CF d) [] C8.E0 (tCons (tVar 0) (tCons (tVar 1) (tCons (tVar 10) (tCons (tVar 8) (tCons (tTup (tCons (tVar 5) (tCons (tVar 9) tNil))) tNil)))))))
                (tAsg (tVar 9) (gName 5))))))
        { nx := fun _ H' => Q .non H', rt := Q } [some (.ref x), some (vN pr), some (.ref pt), some (.ref bp), some (.ref en), some (vN near), some (vN far), none, none, none, none] H1 := by
    intro H1 st0 fr0 L0 hw0 hfin
    have hbp1 := fr0.tups _ _ hbp
    refine ⟨_, rfl, bp, xs, rfl, SqT.of hbp1, ?_⟩
    refine for_it (walk_enumT (K := K) (a := bp) (xs := xs)) (fun i σ H2 => ∃ (n7 n8 n9 n10 : Option V) (sti : LS) (ri : Prop) (ni : Nat), σ = [some (.ref x), some (vN pr), some (.ref pt), some (.ref bp), some (.ref en), some (vN ni), some (vN far), n7, n8, n9, n10] ∧
      Fr [am, ao, ap] H H2 ∧ LayAt P w H2 am ao ap sti ∧ sti.wt + 9 * szB d (bd.drop i) ≤ 200000 ∧ layList (layS En pr d) (canS En d) pr far path ri (bd.drop i) i ni sti = layB En pr d path near far r bd st) ?_ ?_ ?_ ?_
    · exact ⟨none, none, none, none, st0, r, near, rfl, fr0, L0, hw0, hfin⟩
    · rintro i σ H2 hi ⟨_, _, _, _, sti, ri, ni, rfl, fr, _⟩
      exact SqT.of (fr.tups _ _ hbp)
    · rintro i y σ H2 H3 hi ⟨n7, n8, n9, n10, sti, ri, ni, rfl, fr, L, hw, hf⟩ ⟨Tq, y1, y2, rfl, hT, rfl, e1, e2⟩
      cases e1
      obtain ⟨sm, hsm, hsa⟩ := paired_at hx e2
      have hi' : i < bd.length := (List.getElem?_eq_some_iff.mp hsm).1
      have ed := drop_cons hsm
      rw [ed] at hf hw
      have hw' : sti.wt + 9 * (szS d sm + szB d (bd.drop (i + 1))) ≤ 200000 := hw
      have s3 := same_new hT (.tup [.int (i : Nat), y2])
      have fr3 := fr.trans (Fr.same s3)
      have L3 := L.same s3
      have hfl := I.fl.fr I.la fr3
      -- position, statement
      refine ⟨Tq, _, rfl, SqT.of upd_same, rfl, _, _, rfl, _, _, rfl, rfl, ?_⟩
      -- there
      refine ⟨_, rfl, _, rfl, bp, _, rfl, .inr (SqT.of (fr3.tups _ _ hbp)), _, _, rfl, rfl, rfl, _, rfl, ?_⟩
      have hsz1 : szS d sm ≤ szB d bd := szS_le (List.mem_of_getElem? hsm)
      cases hrest : bd.drop (i + 1) with
      | nil =>
        have hl1 : bd.length = i + 1 := by
          have := congrArg List.length hrest
          rw [List.length_drop] at this
          have h0 : ([] : List Stm).length = 0 := rfl
          omega
        rw [decide_eq_true (congrArg V.int (by rw [hlen, hl1]; omega))]
        rw [hrest] at hf hw'
        refine iteT ⟨_, rfl, ?_⟩
        refine body_turn (En := En) (r := ri) T hfl L3 (by omega) (fr3.tups _ _ I.pt) (SA_mono fr3.tups d hsa) (by have := I.pl; omega) fun H' q' frn Ln => ?_
        refine ⟨_, _, _, _, _, True, far, rfl, fr3.trans frn, Ln, ?_, ?_⟩
        · have hg := layS_wt (E := En) (pr := pr) d ri sm (path ++ [i]) ni far (sti.path (pr, path ++ [i]) ni)
          rw [wt_path] at hg
          show _ + 9 * 0 ≤ 200000
          omega
        · exact hf
      | cons t l =>
        have hl1 : i + 1 < bd.length := by
          have := congrArg List.length hrest
          rw [List.length_drop, List.length_cons] at this
          omega
        rw [decide_eq_false (fun z => by have := V.int.inj z; rw [hlen] at this; omega)]
        rw [hrest] at hf hw'
        refine iteF ⟨_, rfl, _, rfl, x, am, ao, ap, pr, sti, rfl, hfl, L3, by omega, fun H4 L4 fr4 => ?_⟩
        have fr5 := fr3.trans fr4
        refine body_turn (En := En) (r := ri) T (hfl.fr L3 fr4) (L4 (ri ∧ canS En d sm = true)) (by rw [wt_next]; omega) (fr5.tups _ _ I.pt) (SA_mono fr5.tups d hsa) (by have := I.pl; omega) fun H' q' frn Ln => ?_
        refine ⟨_, _, _, _, _, (ri ∧ canS En d sm = true), sti.own.length, rfl, fr5.trans frn, Ln, ?_, ?_⟩
        · have hg := layS_wt (E := En) (pr := pr) d ri sm (path ++ [i]) ni sti.own.length ((sti.next pr (ri ∧ canS En d sm = true)).path (pr, path ++ [i]) ni)
          rw [wt_path, wt_next] at hg
          omega
        · exact hf
    · rintro σ H2 ⟨n7, n8, n9, n10, sti, ri, ni, rfl, fr, L, hw, hf⟩
      have e0 : bd.drop xs.length = [] := by rw [hlen, List.drop_length]
      rw [e0] at hf
      rw [show sti = layB En pr d path near far r bd st from hf] at L
      exact q _ L fr
  by_cases hb0 : bd = []
  · subst hb0
    have hx0 : xs.length = 0 := hlen
    rw [decide_eq_true (congrArg V.int (by rw [hx0]; rfl))]
    refine iteT ⟨_, rfl, _, rfl, _, rfl, x, am, ao, ap, ⟨near, "step", .non, far⟩, st, rfl, I.fl, I.la, by omega, fun H1 L1 fr1 => ?_⟩
    refine main H1 _ fr1 L1 (by rw [wt_move]; omega) ?_
    show _ = layBody _ _ _ _ _ _ _ _ _
    unfold layBody
    rw [if_pos rfl]
  · have hx0 : xs.length ≠ 0 := fun z => hb0 (List.eq_nil_of_length_eq_zero (by omega))
    rw [decide_eq_false (fun z => hx0 (by have := V.int.inj z; omega))]
    refine iteF (main H st (Fr.refl _ _) I.la (by omega) ?_)
    show _ = layBody _ _ _ _ _ _ _ _ _
    unfold layBody
    rw [if_neg hb0]
end
end Dp
namespace Dp
open PySem L2
open C8 (Cal Met Mak pe_c pe_mk pe_mt pe_mt0 pe_gc InsC call_isC)
theorem layB_wt {E : List Nat} {pr d near far : Nat} {path : List Nat} {r : Prop} {b : List Stm} {st : LS} : (layB E pr d path near far r b st).wt ≤ st.wt + 1 + 9 * szB d b := layBody_wt (layS_wt d) b st
section
variable {P : Program} {w : World} {K : PySem.W.Frag} {mg : Str → Option Value} {base : Heap} {kd pw CP CF : Addr} {f : Addr} {fd : FuncData}
def spLayHold (P : Program) (w : World) (CF : Addr) (d : Nat) : Sp := fun vs H Q _ => ∃ (E : List Nat) (r : Prop) (x am ao ap : Addr) (st : LS) (pt en : Addr) (v : V) (pr : Nat) (path : List Nat) (near far : Nat) (k : Nat) (body : List Stm), vs = [.ref x, vN pr, .ref pt, v, .ref en] ∧
  LayIn P w CF H x am ao ap st (9 * szS (d + 1) (.hold k body)) pt en path near far ∧ SA H (d + 1) v (.hold k body) ∧ path.length + 2 * (d + 1) ≤ 1000 ∧
  ∀ H', LayAt P w H' am ao ap (layS E pr (d + 1) r (.hold k body) path near far st) → Fr [am, ao, ap] H H' → Q .non H'
abbrev st_lay_hold : Stmt := top 44
abbrev N_lay_hold : List Str := ["flow", "procedure", "path", "statement", "ends", "near", "far", "first", "last"]
theorem sc_lay_hold : FnScope N_lay_hold ["flow", "procedure", "path", "statement", "ends"] (defScope st_lay_hold) := ⟨rfl, rfl, rfl, by decide +kernel, rfl, by decide +kernel, by decide +kernel⟩
theorem ok_lay_hold {d k : Nat} (F : GFun K mg "lay_hold" st_lay_hold f fd) (T : Txt K w mg kd pw CP CF) (c_next_place : Cal P w K mg base 1 "next_place" (spNext P w CF) []) (c_lay_move : Cal P w K mg base 1 "lay_move" (spMove P w CF) []) (c_lay_body : Cal P w K mg base k "lay_body" (spLayBody P w CF d) []) (hk : 1 ≤ k) :
    Cal P w K mg base (k + 1) "lay_hold" (spLayHold P w CF d) [] := by
  have b : Binds K fd ["flow", "procedure", "path", "statement", "ends"] [] := F.fn.binds fun _ _ _ _ _ _ us hl => match us, hl with | [_, _, _, _, _], _ => rfl
  refine cal_of F b (F.fn.ok sc_lay_hold (fun vs H Q E h => ?_) (fun cdv A outer s H vs Q E hr h => ?_))
  · obtain ⟨_, _, x, am, ao, ap, st, pt, en, v, pr, path, near, far, k, body, rfl, _⟩ := h
    rfl
  obtain ⟨En, r, x, am, ao, ap, st, pt, en, v, pr, path, near, far, lk, body, rfl, I, hS, hpd, q⟩ := h
  obtain ⟨a, rfl, p, ha, hB⟩ := hS
  have hwt : st.wt + 9 * (1 + szB d body) ≤ 200002 := I.wt
  refine ⟨_, ((pss_cons (ps_asg (pv 4) (pg_tup rfl (pgs_cons (pg_name (i := 5) sc_lay_hold.nd rfl (Or.inl rfl)) (pgs_cons (pg_name (i := 6) sc_lay_hold.nd rfl (Or.inl rfl)) pgs_nil))))
  (pss_cons (ps_set (i := 7) sc_lay_hold.nd rfl (Or.inl rfl) (pe_c c_next_place hr (by omega) (by rfl) (pa_cons (pv 0) (pa_cons (pv 1) pa_nil))))
  (pss_cons (ps_expr (pe_c c_lay_move hr (by omega) (by rfl) (pa_cons (pv 0) (pa_cons (pv 5) (pa_cons pe_str (pa_cons (pe_ix ix_tup (pv 3) pe_int (fun _ _ => rfl)) (pa_cons (pv 7) pa_nil)))))))
  (pss_cons (ps_set (i := 8) sc_lay_hold.nd rfl (Or.inl rfl) (pe_c c_next_place hr (by omega) (by rfl) (pa_cons (pv 0) (pa_cons (pv 1) pa_nil))))
  (pss_cons (ps_expr (pe_c c_lay_body hr (by omega) (by rfl) (pa_cons (pv 0) (pa_cons (pv 1) (pa_cons (pe_op op_catB (pv 2) (pe_tup (pa_cons pe_int pa_nil))) (pa_cons (pe_ix ix_tup (pv 3) pe_int (fun _ _ => rfl)) (pa_cons (pe_tup (pa_cons (pv 7) (pa_cons (pv 8) pa_nil))) pa_nil)))))))
  (pss_one (ps_expr (pe_c c_lay_move hr (by omega) (by rfl) (pa_cons (pv 0) (pa_cons (pv 8) (pa_cons pe_str (pa_cons (pe_ix ix_tup (pv 3) pe_int (fun _ _ => rfl)) (pa_cons (pv 6) pa_nil)))))))))))))), ?_⟩
  -- near, far = ends
  refine ⟨_, rfl, en, _, rfl, SqT.of I.en, rfl, _, _, rfl, _, _, rfl, rfl, ?_⟩
  -- first = next_place(flow, procedure)
  refine ⟨_, rfl, _, rfl, x, am, ao, ap, pr, st, rfl, I.fl, I.la, by omega, fun H1 L1 f1 => ?_⟩
  have L1 := L1 r
  have w1 := wt_next st pr r
  generalize hst1 : st.next pr r = st1 at L1 w1
  -- lay_move(flow, near, 'take', statement[1], first)
  have ha1 := f1.tups _ _ ha
  refine ⟨_, rfl, _, rfl, _, rfl, a, _, _, _, rfl, rfl, SqT.of ha1, at_of (j := 1) rfl rfl, _, rfl, x, am, ao, ap, ⟨near, "take", vN lk, st.own.length⟩, st1, rfl, I.fl.fr I.la f1, L1, by omega, fun H2 L2 f2 => ?_⟩
  have f12 := f1.trans f2
  have w2 := wt_move st1 ⟨near, "take", vN lk, st.own.length⟩
  have e2 : (st1.move ⟨near, "take", vN lk, st.own.length⟩).own.length = st.own.length + 1 := by rw [← hst1]; simp [LS.next, LS.move]
  generalize hst2 : st1.move ⟨near, "take", vN lk, st.own.length⟩ = st2 at L2 w2 e2
  -- last = next_place(flow, procedure)
  refine ⟨_, rfl, _, rfl, x, am, ao, ap, pr, st2, rfl, I.fl.fr I.la f12, L2, by omega, fun H3 L3 f3 => ?_⟩
  rw [e2]
  have L3 := L3 (r ∧ canB En d body = true)
  have w3 := wt_next st2 pr (r ∧ canB En d body = true)
  generalize hst3 : st2.next pr (r ∧ canB En d body = true) = st3 at L3 w3
  have f13 := f12.trans f3
  -- lay_body(flow, procedure, path + (0,), statement[2], (first, last))
  refine ⟨_, rfl, _, rfl, _, rfl, by show 1 ≤ sizeLine; decide, fun p4 hp4 => ?_⟩
  have s4 := same_new hp4 (.tup [.int 0])
  refine ⟨pt, p4, _, _, rfl, rfl, SqT.of (s4 _ _ (f13.tups _ _ I.pt)), upd_same, (fun z => by cases z), (by rw [List.length_map]; show path.length + 1 ≤ sizeLine; exact Nat.le_of_lt (lt_sizeLine (by omega))), fun q5 H5 s5 hq5 => ?_⟩
  have s45 := s4.trans s5
  refine ⟨_, rfl, a, _, _, _, rfl, rfl, SqT.of (s45 _ _ (f13.tups _ _ ha)), at_of (j := 2) rfl rfl, _, rfl, _, rfl, by show 2 ≤ sizeLine; decide, fun p6 hp6 => ?_⟩
  have s6 := same_new hp6 (.tup [vN st.own.length, vN (st.own.length + 1)])
  have s46 := s45.trans s6
  have f6 := f13.trans (Fr.same s46)
  have hq6 : (upd H5 p6 (.tup [vN st.own.length, vN (st.own.length + 1)])) q5 = some (.tup ((path ++ [0]).map vN)) := by
    refine s6 _ _ ?_
    rw [← map_vN_snoc]
    exact hq5
  refine ⟨En, r, x, am, ao, ap, st3, q5, p6, p, pr, path ++ [0], st.own.length, st.own.length + 1, body, rfl, ⟨I.fl.fr I.la f6, L3.same s46, by omega, hq6, upd_same, by rw [List.length_append, List.length_singleton]; omega⟩, BA_mono f6.tups hB, by rw [List.length_append, List.length_singleton]; omega, fun H7 L7 f7 => ?_⟩
  have f17 := f6.trans f7
  have w7 := layB_wt (E := En) (pr := pr) (d := d) (near := st.own.length) (far := st.own.length + 1) (path := path ++ [0]) (r := r) (b := body) (st := st3)
  -- lay_move(flow, last, 'give', statement[1], far)
  refine ⟨_, rfl, _, rfl, _, rfl, a, _, _, _, rfl, rfl, SqT.of (f17.tups _ _ ha), at_of (j := 1) rfl rfl, _, rfl, x, am, ao, ap, ⟨st.own.length + 1, "give", vN lk, far⟩, _, rfl, I.fl.fr I.la f17, L7, by omega, fun H8 L8 f8 => ?_⟩
  refine q _ ?_ (f17.trans f8)
  subst hst1 hst2 hst3
  exact L8
end
end Dp
namespace Dp
open PySem L2
open C8 (Cal Met Mak pe_c pe_mk pe_mt pe_mt0 pe_gc InsC call_isC)
section
variable {P : Program} {w : World} {K : PySem.W.Frag} {mg : Str → Option Value} {base : Heap} {kd pw CP CF : Addr} {f : Addr} {fd : FuncData}
/-- one branch of either, when -/
def brStep (E : List Nat) (pr d : Nat) (r : Prop) (path : List Nat) (near far : Nat) (kind : Str) (what : V) (j : Nat) (b : List Stm) (st : LS) : LS :=
  layBody (layS E pr d) (canS E d) pr (path ++ [j]) st.own.length far r b ((st.next pr r).move ⟨near, kind, what, st.own.length⟩)
theorem brStep_wt {E : List Nat} {pr d : Nat} {r : Prop} {path : List Nat} {near far : Nat} {kind : Str} {what : V} {j : Nat} {b : List Stm} {st : LS} : (brStep E pr d r path near far kind what j b st).wt ≤ st.wt + 3 + 9 * szB d b := by
  have h := layB_wt (E := E) (pr := pr) (d := d) (near := st.own.length) (far := far) (path := path ++ [j]) (r := r) (b := b) (st := (st.next pr r).move ⟨near, kind, what, st.own.length⟩)
  rw [wt_move, wt_next] at h
  show (layB E pr d (path ++ [j]) st.own.length far r b ((st.next pr r).move ⟨near, kind, what, st.own.length⟩)).wt ≤ _
  omega
def tTurnBr (K : PySem.W.Frag) (P : Program) (w : World) (CF : Addr) (d : Nat) : TS :=
  tSeq (tAsg (tCall (spNext P w CF) [] C8.E0 (tCons (tVar 0) (tCons (tVar 1) tNil))) (gName 12))
    (tSeq (tAsg (tIf (tTest (tOp rEq (tVar 5) (tC (.str "when")))) (tOp (rIxT K) (tTup (tCons (tC (.str "is")) (tCons (tC (.str "not")) tNil))) (tVar 10)) (tC (.str "step"))) (gName 13))
      (tSeq (tDrop (tCall (spMove P w CF) [] C8.E0 (tCons (tVar 0) (tCons (tVar 6) (tCons (tVar 13) (tCons (tVar 9) (tCons (tVar 12) tNil)))))))
        (tDrop (tCall (spLayBody P w CF d) [] C8.E0 (tCons (tVar 0) (tCons (tVar 1) (tCons (tOp (rCatB K) (tVar 2) (tTup (tCons (tVar 10) tNil))) (tCons (tVar 11) (tCons (tTup (tCons (tVar 12) (tCons (tVar 7) tNil))) tNil)))))))))
theorem branch_turn {d : Nat} {En : List Nat} {r : Prop} {D : Ends} {H : Hp} {x am ao ap pt bp en : Addr} {st : LS} {pr near far i : Nat} {path : List Nat} {v what : V} {bd : List Stm} {n8 n12 n13 : Option V} {wd kind : Str} {isW : Bool}
    (hW : decide (V.str wd = V.str "when") = isW) (hk1 : isW = true → ([.str "is", .str "not"] : List V)[i]? = some (.str kind)) (hk2 : isW = false → kind = "step")
    (hfl : FlowIn CF H x am ao ap) (L : LayAt P w H am ao ap st) (hw : st.wt + 3 + 9 * szB d bd ≤ 200000) (hpt : H pt = some (.tup (path.map vN))) (hB : BA H d bp bd) (hpl : path.length + 2 * (d + 1) ≤ 1000)
    (hD : ∀ H' n12 n13, Fr [am, ao, ap] H H' → LayAt P w H' am ao ap (brStep En pr d r path near far kind what i bd st) →
      D.nx [some (.ref x), some (vN pr), some (.ref pt), some v, some (.ref en), some (.str wd), some (vN near), some (vN far), n8, some what, some (.int (i : Int)), some (.ref bp), n12, n13] H') :
    tTurnBr K P w CF d D [some (.ref x), some (vN pr), some (.ref pt), some v, some (.ref en), some (.str wd), some (vN near), some (vN far), n8, some what, some (.int (i : Int)), some (.ref bp), n12, n13] H := by
  -- place = next_place(flow, procedure)
  refine ⟨_, rfl, _, rfl, x, am, ao, ap, pr, st, rfl, hfl, L, by omega, fun H1 L1 f1 => ?_⟩
  have L1 := L1 r
  have w1 := wt_next st pr r
  have fl1 := hfl.fr L f1
  generalize hst1 : st.next pr r = st1 at L1 w1
  have rest : ∀ H2, Same H1 H2 → tSeq (tDrop (tCall (spMove P w CF) [] C8.E0 (tCons (tVar 0) (tCons (tVar 6) (tCons (tVar 13) (tCons (tVar 9) (tCons (tVar 12) tNil)))))))
        (tDrop (tCall (spLayBody P w CF d) [] C8.E0 (tCons (tVar 0) (tCons (tVar 1) (tCons (tOp (rCatB K) (tVar 2) (tTup (tCons (tVar 10) tNil))) (tCons (tVar 11) (tCons (tTup (tCons (tVar 12) (tCons (tVar 7) tNil))) tNil))))))) D
        [some (.ref x), some (vN pr), some (.ref pt), some v, some (.ref en), some (.str wd), some (vN near), some (vN far), n8, some what, some (.int (i : Int)), some (.ref bp), some (vN st.own.length), some (.str kind)] H2 := by
    intro H2 s2
    have f2 := f1.trans (Fr.same s2)
    -- lay_move(flow, near, kind, mode, place)
    refine ⟨_, rfl, _, rfl, _, rfl, _, rfl, _, rfl, x, am, ao, ap, ⟨near, kind, what, st.own.length⟩, st1, rfl, fl1.same s2, L1.same s2, by omega, fun H3 L3 f3 => ?_⟩
    have f13 := f2.trans f3
    have w3 := wt_move st1 ⟨near, kind, what, st.own.length⟩
    generalize hst3 : st1.move ⟨near, kind, what, st.own.length⟩ = st3 at L3 w3
    -- lay_body(flow, procedure, path + (which,), body, (place, far))
    refine ⟨_, rfl, _, rfl, _, rfl, _, rfl, by show 1 ≤ sizeLine; decide, fun p4 hp4 => ?_⟩
    have s4 := same_new hp4 (.tup [.int (i : Int)])
    refine ⟨pt, p4, _, _, rfl, rfl, SqT.of (s4 _ _ (f13.tups _ _ hpt)), upd_same, (fun z => by cases z), (by rw [List.length_map]; show path.length + 1 ≤ sizeLine; exact Nat.le_of_lt (lt_sizeLine (by omega))), fun q5 H5 s5 hq5 => ?_⟩
    have s45 := s4.trans s5
    refine ⟨_, rfl, _, rfl, _, rfl, by show 2 ≤ sizeLine; decide, fun p6 hp6 => ?_⟩
    have s6 := same_new hp6 (.tup [vN st.own.length, vN far])
    have s46 := s45.trans s6
    have f6 := f13.trans (Fr.same s46)
    have hq6 : (upd H5 p6 (.tup [vN st.own.length, vN far])) q5 = some (.tup ((path ++ [i]).map vN)) := by
      refine s6 _ _ ?_
      rw [← map_vN_snoc]
      exact hq5
    refine ⟨En, r, x, am, ao, ap, st3, q5, p6, bp, pr, path ++ [i], st.own.length, far, bd, rfl, ⟨hfl.fr L f6, L3.same s46, by omega, hq6, upd_same, by rw [List.length_append, List.length_singleton]; omega⟩, BA_mono f6.tups hB, by rw [List.length_append, List.length_singleton]; omega, fun H7 L7 f7 => ?_⟩
    refine hD H7 _ _ (f6.trans f7) ?_
    subst hst1 hst3
    exact L7
  -- kind = ('is', 'not')[which] if word == 'when' else 'step'
  refine ⟨_, rfl, rfl, _, rfl, ?_⟩
  rw [hW]
  cases isW with
  | true =>
    refine iteT ⟨by show 2 ≤ sizeLine; decide, fun p2 hp2 => ?_⟩
    exact ⟨_, rfl, p2, _, _, _, rfl, rfl, SqT.of upd_same, atI_nat (hk1 rfl), rest _ (same_new hp2 _)⟩
  | false =>
    rw [hk2 rfl] at rest
    exact iteF (rest _ (Same.refl _))
theorem pw_not {w : PW} {x : Str} (h : x = "skip" ∨ x = "hold" ∨ x = "loop") : decide (V.str w.str = V.str x) = false := by
  rcases h with rfl | rfl | rfl <;> cases w <;> decide +kernel
theorem pw_in (w : PW) : inV (.str w.str) [.str "touch", .str "write", .str "mark", .str "claim", .str "set", .str "call"] = true := by cases w <;> decide +kernel
abbrev st_lay_statement : Stmt := top 43
abbrev N_lay_statement : List Str := ["flow", "procedure", "path", "statement", "ends", "word", "near", "far", "turn", "mode", "which", "body", "place", "kind"]
theorem sc_lay_statement : FnScope N_lay_statement ["flow", "procedure", "path", "statement", "ends"] (defScope st_lay_statement) := ⟨rfl, rfl, rfl, by decide +kernel, rfl, by decide +kernel, by decide +kernel⟩
theorem ok_lay_statement {d k : Nat} (F : GFun K mg "lay_statement" st_lay_statement f fd) (T : Txt K w mg kd pw CP CF) (c_next_place : Cal P w K mg base 1 "next_place" (spNext P w CF) []) (c_lay_move : Cal P w K mg base 1 "lay_move" (spMove P w CF) []) (c_lay_body : Cal P w K mg base k "lay_body" (spLayBody P w CF d) []) (c_lay_hold : Cal P w K mg base (k + 1) "lay_hold" (spLayHold P w CF d) []) (hk : 1 ≤ k) :
    Cal P w K mg base (k + 2) "lay_statement" (spLayStm P w CF (d + 1)) [] := by
  have b : Binds K fd ["flow", "procedure", "path", "statement", "ends"] [] := F.fn.binds fun _ _ _ _ _ _ us hl => match us, hl with | [_, _, _, _, _], _ => rfl
  refine cal_of F b (F.fn.ok sc_lay_statement (fun vs H Q E h => ?_) (fun cdv A outer s H vs Q E hr h => ?_))
  · obtain ⟨_, _, x, am, ao, ap, st, pt, en, v, pr, path, near, far, s, rfl, _⟩ := h
    rfl
  obtain ⟨En, r, x, am, ao, ap, st, pt, en, v, pr, path, near, far, sm, rfl, I, hS, hpd, q⟩ := h
  obtain ⟨a, ps, rfl, ha, hps⟩ := SA_view hS
  have hwt := I.wt
  have h0 : atI ((.str (word sm) :: (headOf sm ++ ps.map V.ref)) : List V) 0 = some (.str (word sm)) := at_of (j := 0) rfl rfl
  refine ⟨_, ((pss_cons (ps_asg (pe_tup (pa_cons (pe_ix ix_tup (pv 3) pe_int (fun _ _ => rfl)) (pa_cons (pv 4) pa_nil))) (pg_tup rfl (pgs_cons (pg_name (i := 5) sc_lay_statement.nd rfl (Or.inl rfl)) (pgs_cons (pg_tup rfl (pgs_cons (pg_name (i := 6) sc_lay_statement.nd rfl (Or.inl rfl)) (pgs_cons (pg_name (i := 7) sc_lay_statement.nd rfl (Or.inl rfl)) pgs_nil))) pgs_nil))))
  (pss_one (ps_if (pt_cmpR op_eq (pv 5) pe_str (nomark _)) (pss_one (ps_expr (pe_c c_lay_move hr (by omega) (by rfl) (pa_cons (pv 0) (pa_cons (pv 6) (pa_cons pe_str (pa_cons pe_non (pa_cons (pv 7) pa_nil)))))))) (pss_one (ps_if (pt_cmpR op_in_seq (pv 5) (pe_gc (by rfl) T.c_PLAIN_WORDS) (by rfl)) (pss_one (ps_expr (pe_c c_lay_move hr (by omega) (by rfl) (pa_cons (pv 0) (pa_cons (pv 6) (pa_cons (pv 5) (pa_cons (pe_ix ix_tup (pv 3) pe_int (fun _ _ => rfl)) (pa_cons (pv 7) pa_nil)))))))) (pss_one (ps_if (pt_cmpR op_eq (pv 5) pe_str (nomark _)) (pss_one (ps_expr (pe_c c_lay_hold hr (by omega) (by rfl) (pa_cons (pv 0) (pa_cons (pv 1) (pa_cons (pv 2) (pa_cons (pv 3) (pa_cons (pv 4) pa_nil)))))))) (pss_one (ps_if (pt_cmpR op_eq (pv 5) pe_str (nomark _)) (pss_cons (ps_set (i := 8) sc_lay_statement.nd rfl (Or.inl rfl) (pe_c c_next_place hr (by omega) (by rfl) (pa_cons (pv 0) (pa_cons (pv 1) pa_nil))))
  (pss_cons (ps_expr (pe_c c_lay_move hr (by omega) (by rfl) (pa_cons (pv 0) (pa_cons (pv 6) (pa_cons pe_str (pa_cons pe_non (pa_cons (pv 8) pa_nil)))))))
  (pss_cons (ps_expr (pe_c c_lay_body hr (by omega) (by rfl) (pa_cons (pv 0) (pa_cons (pv 1) (pa_cons (pe_op op_catB (pv 2) (pe_tup (pa_cons pe_int pa_nil))) (pa_cons (pe_ix ix_tup (pv 3) pe_int (fun _ _ => rfl)) (pa_cons (pe_tup (pa_cons (pv 8) (pa_cons (pv 8) pa_nil))) pa_nil)))))))
  (pss_one (ps_expr (pe_c c_lay_move hr (by omega) (by rfl) (pa_cons (pv 0) (pa_cons (pv 8) (pa_cons pe_str (pa_cons pe_non (pa_cons (pv 7) pa_nil))))))))))) (pss_cons (ps_set (i := 9) sc_lay_statement.nd rfl (Or.inl rfl) (pe_ifExp (pt_cmpR op_eq (pv 5) pe_str (nomark _)) (pe_ix ix_tup (pv 3) pe_int (fun _ _ => rfl)) pe_non))
  (pss_one (ps_for PassesOwn.never rfl (pi_enumT (by rfl) T.n_enumerate (pa_cons (pe_slice sl_tup (pv 3) (po_some (pe_un un_neg pe_int)) po_none) pa_nil)) (pg_tup rfl (pgs_cons (pg_name (i := 10) sc_lay_statement.nd rfl (Or.inl rfl)) (pgs_cons (pg_name (i := 11) sc_lay_statement.nd rfl (Or.inl rfl)) pgs_nil)))
  (pss_cons (ps_set (i := 12) sc_lay_statement.nd rfl (Or.inl rfl) (pe_c c_next_place hr (by omega) (by rfl) (pa_cons (pv 0) (pa_cons (pv 1) pa_nil))))
  (pss_cons (ps_set (i := 13) sc_lay_statement.nd rfl (Or.inl rfl) (pe_ifExp (pt_cmpR op_eq (pv 5) pe_str (nomark _)) (pe_ix ix_tup (pe_tup (pa_cons pe_str (pa_cons pe_str pa_nil))) (pv 10) (fun _ _ => rfl)) pe_str))
  (pss_cons (ps_expr (pe_c c_lay_move hr (by omega) (by rfl) (pa_cons (pv 0) (pa_cons (pv 6) (pa_cons (pv 13) (pa_cons (pv 9) (pa_cons (pv 12) pa_nil)))))))
  (pss_one (ps_expr (pe_c c_lay_body hr (by omega) (by rfl) (pa_cons (pv 0) (pa_cons (pv 1) (pa_cons (pe_op op_catB (pv 2) (pe_tup (pa_cons (pv 10) pa_nil))) (pa_cons (pv 11) (pa_cons (pe_tup (pa_cons (pv 12) (pa_cons (pv 7) pa_nil))) pa_nil)))))))))))))))))))))))), ?_⟩
  -- word, (near, far) = (statement[0], ends)
  refine ⟨_, rfl, a, _, _, _, rfl, rfl, SqT.of ha, h0, _, rfl, by show 2 ≤ sizeLine; decide, fun p1 hp1 => ?_⟩
  have s1 := same_new hp1 (.tup [.str (word sm), .ref en])
  refine ⟨p1, _, rfl, SqT.of upd_same, rfl, _, _, rfl, _, _, rfl, en, _, rfl, SqT.of (s1 _ _ I.en), rfl, _, _, rfl, _, _, rfl, rfl, rfl, ?_⟩
  have f1 : Fr [am, ao, ap] H (upd H p1 (.tup [.str (word sm), .ref en])) := Fr.same s1
  have fl1 := I.fl.same s1
  have L1 := I.la.same s1
  have ha1 := s1 _ _ ha
  have hpt1 := s1 _ _ I.pt
  have hen1 := s1 _ _ I.en
  have hps1 := paired_mono (fun p b hb => BA_mono s1.tups hb) hps
  generalize upd H p1 (.tup [.str (word sm), .ref en]) = H1 at f1 fl1 L1 ha1 hpt1 hen1 hps1
  have hS1 : SA H1 (d + 1) (.ref a) sm := SA_mono f1.tups _ hS
  cases sm with
  | skip =>
    have hwt : st.wt + 9 * 1 ≤ 200002 := hwt
    refine ⟨_, rfl, rfl, _, rfl, ?_⟩
    rw [decide_eq_true (show V.str (word .skip) = V.str "skip" from rfl)]
    refine iteT ⟨_, rfl, _, rfl, _, rfl, x, am, ao, ap, ⟨near, "step", .non, far⟩, st, rfl, fl1, L1, by omega, fun H2 L2 f2 => q _ L2 (f1.trans f2)⟩
  | plain pw' n =>
    have hwt : st.wt + 9 * 1 ≤ 200002 := hwt
    refine ⟨_, rfl, rfl, _, rfl, ?_⟩
    rw [show decide (V.str (word (.plain pw' n)) = V.str "skip") = false from pw_not (.inl rfl)]
    refine iteF ⟨_, rfl, pw, _, rfl, .inr (T.words _), rfl, rfl, _, rfl, ?_⟩
    rw [show (if false = true then !inV (.str (word (.plain pw' n))) [.str "touch", .str "write", .str "mark", .str "claim", .str "set", .str "call"] else inV (.str (word (.plain pw' n))) [.str "touch", .str "write", .str "mark", .str "claim", .str "set", .str "call"]) = true from pw_in pw']
    have h1 : atI ((.str (word (.plain pw' n)) :: (headOf (.plain pw' n) ++ ps.map V.ref)) : List V) 1 = some (vN n) := by cases pw' <;> exact at_of (j := 1) rfl rfl
    refine iteT ⟨_, rfl, _, rfl, _, rfl, _, rfl, a, _, _, _, rfl, rfl, SqT.of ha1, h1, _, rfl, x, am, ao, ap, ⟨near, pw'.str, vN n, far⟩, st, rfl, fl1, L1, by omega, fun H2 L2 f2 => q _ L2 (f1.trans f2)⟩
  | hold lk body =>
    refine ⟨_, rfl, rfl, _, rfl, ?_⟩
    rw [decide_eq_false (show ¬ V.str (word (.hold lk body)) = V.str "skip" from by show ¬ V.str "hold" = V.str "skip"; decide +kernel)]
    refine iteF ⟨_, rfl, pw, _, rfl, .inr (T.words _), rfl, rfl, _, rfl, ?_⟩
    rw [show (if false = true then !inV (.str (word (.hold lk body))) [.str "touch", .str "write", .str "mark", .str "claim", .str "set", .str "call"] else inV (.str (word (.hold lk body))) [.str "touch", .str "write", .str "mark", .str "claim", .str "set", .str "call"]) = false from by show inV (.str "hold") [.str "touch", .str "write", .str "mark", .str "claim", .str "set", .str "call"] = false; decide +kernel]
    refine iteF ⟨_, rfl, rfl, _, rfl, ?_⟩
    rw [decide_eq_true (show V.str (word (.hold lk body)) = V.str "hold" from rfl)]
    refine iteT ⟨_, rfl, _, rfl, _, rfl, _, rfl, _, rfl, En, r, x, am, ao, ap, st, pt, en, .ref a, pr, path, near, far, lk, body, rfl, ⟨fl1, L1, hwt, hpt1, hen1, I.pl⟩, hS1, hpd, fun H2 L2 f2 => q _ L2 (f1.trans f2)⟩
  | loop body =>
    have hwt : st.wt + 9 * (1 + szB d body) ≤ 200002 := hwt
    cases hps1 with
    | @cons bp _ _ _ hB hnil =>
    cases hnil
    have h1 : atI ((.str (word (.loop body)) :: (headOf (.loop body) ++ [bp].map V.ref)) : List V) 1 = some (.ref bp) := at_of (j := 1) rfl rfl
    refine ⟨_, rfl, rfl, _, rfl, ?_⟩
    rw [decide_eq_false (show ¬ V.str (word (.loop body)) = V.str "skip" from by show ¬ V.str "loop" = V.str "skip"; decide +kernel)]
    refine iteF ⟨_, rfl, pw, _, rfl, .inr (T.words _), rfl, rfl, _, rfl, ?_⟩
    rw [show (if false = true then !inV (.str (word (.loop body))) [.str "touch", .str "write", .str "mark", .str "claim", .str "set", .str "call"] else inV (.str (word (.loop body))) [.str "touch", .str "write", .str "mark", .str "claim", .str "set", .str "call"]) = false from by show inV (.str "loop") [.str "touch", .str "write", .str "mark", .str "claim", .str "set", .str "call"] = false; decide +kernel]
    refine iteF ⟨_, rfl, rfl, _, rfl, ?_⟩
    rw [decide_eq_false (show ¬ V.str (word (.loop body)) = V.str "hold" from by show ¬ V.str "loop" = V.str "hold"; decide +kernel)]
    refine iteF ⟨_, rfl, rfl, _, rfl, ?_⟩
    rw [decide_eq_true (show V.str (word (.loop body)) = V.str "loop" from rfl)]
    -- turn = next_place(flow, procedure)
    refine iteT ⟨_, rfl, _, rfl, x, am, ao, ap, pr, st, rfl, fl1, L1, by omega, fun H2 L2 f2 => ?_⟩
    have L2 := L2 r
    have w2 := wt_next st pr r
    generalize hst2 : st.next pr r = st2 at L2 w2
    -- lay_move(flow, near, 'step', None, turn)
    refine ⟨_, rfl, _, rfl, _, rfl, x, am, ao, ap, ⟨near, "step", .non, st.own.length⟩, st2, rfl, fl1.fr L1 f2, L2, by omega, fun H3 L3 f3 => ?_⟩
    have f13 := f2.trans f3
    have w3 := wt_move st2 ⟨near, "step", .non, st.own.length⟩
    generalize hst3 : st2.move ⟨near, "step", .non, st.own.length⟩ = st3 at L3 w3
    -- lay_body(flow, procedure, path + (0,), statement[1], (turn, turn))
    refine ⟨_, rfl, _, rfl, _, rfl, by show 1 ≤ sizeLine; decide, fun p4 hp4 => ?_⟩
    have s4 := same_new hp4 (.tup [.int 0])
    refine ⟨pt, p4, _, _, rfl, rfl, SqT.of (s4 _ _ (f13.tups _ _ hpt1)), upd_same, (fun z => by cases z), (by rw [List.length_map]; show path.length + 1 ≤ sizeLine; exact Nat.le_of_lt (lt_sizeLine (by omega))), fun q5 H5 s5 hq5 => ?_⟩
    have s45 := s4.trans s5
    refine ⟨_, rfl, a, _, _, _, rfl, rfl, SqT.of (s45 _ _ (f13.tups _ _ ha1)), h1, _, rfl, _, rfl, by show 2 ≤ sizeLine; decide, fun p6 hp6 => ?_⟩
    have s6 := same_new hp6 (.tup [vN st.own.length, vN st.own.length])
    have s46 := s45.trans s6
    have f6 := f13.trans (Fr.same s46)
    have hq6 : (upd H5 p6 (.tup [vN st.own.length, vN st.own.length])) q5 = some (.tup ((path ++ [0]).map vN)) := by
      refine s6 _ _ ?_
      rw [← map_vN_snoc]
      exact hq5
    refine ⟨En, r, x, am, ao, ap, st3, q5, p6, bp, pr, path ++ [0], st.own.length, st.own.length, body, rfl, ⟨fl1.fr L1 f6, L3.same s46, by omega, hq6, upd_same, by rw [List.length_append, List.length_singleton]; omega⟩, BA_mono f6.tups hB, by rw [List.length_append, List.length_singleton]; omega, fun H7 L7 f7 => ?_⟩
    have f17 := f6.trans f7
    have w7 := layB_wt (E := En) (pr := pr) (d := d) (near := st.own.length) (far := st.own.length) (path := path ++ [0]) (r := r) (b := body) (st := st3)
    -- lay_move(flow, turn, 'step', None, far)
    refine ⟨_, rfl, _, rfl, _, rfl, x, am, ao, ap, ⟨st.own.length, "step", .non, far⟩, _, rfl, fl1.fr L1 f17, L7, by omega, fun H8 L8 f8 => ?_⟩
    refine q _ ?_ (f1.trans (f17.trans f8))
    subst hst2 hst3
    exact L8
  | either b1 b2 =>
    have hwt : st.wt + 9 * (1 + (szB d b1 + szB d b2)) ≤ 200002 := hwt
    cases hps1 with
    | @cons p1 _ _ _ hB1 hps2 =>
    cases hps2 with
    | @cons p2 _ _ _ hB2 hps3 =>
    cases hps3
    refine ⟨_, rfl, rfl, _, rfl, ?_⟩
    rw [decide_eq_false (show ¬ V.str (word (.either b1 b2)) = V.str "skip" from by show ¬ V.str "either" = V.str "skip"; decide +kernel)]
    refine iteF ⟨_, rfl, pw, _, rfl, .inr (T.words _), rfl, rfl, _, rfl, ?_⟩
    rw [show (if false = true then !inV (.str (word (.either b1 b2))) [.str "touch", .str "write", .str "mark", .str "claim", .str "set", .str "call"] else inV (.str (word (.either b1 b2))) [.str "touch", .str "write", .str "mark", .str "claim", .str "set", .str "call"]) = false from by show inV (.str "either") [.str "touch", .str "write", .str "mark", .str "claim", .str "set", .str "call"] = false; decide +kernel]
    refine iteF ⟨_, rfl, rfl, _, rfl, ?_⟩
    rw [decide_eq_false (show ¬ V.str (word (.either b1 b2)) = V.str "hold" from by show ¬ V.str "either" = V.str "hold"; decide +kernel)]
    refine iteF ⟨_, rfl, rfl, _, rfl, ?_⟩
    rw [decide_eq_false (show ¬ V.str (word (.either b1 b2)) = V.str "loop" from by show ¬ V.str "either" = V.str "loop"; decide +kernel)]
    -- mode
    refine iteF ⟨_, rfl, rfl, _, rfl, ?_⟩
    have hnw : decide (V.str (word (.either b1 b2)) = V.str "when") = false := by show decide (V.str "either" = V.str "when") = false; decide +kernel
    rw [hnw]
    refine iteF ?_
    -- statement[-2:]
    refine ⟨_, rfl, _, rfl, _, rfl, a, _, rfl, SqT.of ha1, (by show ¬ (1 = 0 ∧ 3 = 3); decide), fun r1 hr1 => ?_⟩
    have s2 := same_new hr1 (.tup [.ref p1, .ref p2])
    refine ⟨r1, [.ref p1, .ref p2], rfl, SqT.of upd_same, ?_⟩
    refine for_it (walk_enumT (K := K) (a := r1) (xs := [.ref p1, .ref p2])) (fun i σ H2 => ∃ (n10 n11 n12 n13 : Option V), σ = [some (.ref x), some (vN pr), some (.ref pt), some (.ref a), some (.ref en), some (.str (word (.either b1 b2))), some (vN near), some (vN far), none, some .non, n10, n11, n12, n13] ∧
      Fr [am, ao, ap] H1 H2 ∧ H2 r1 = some (.tup [.ref p1, .ref p2]) ∧ LayAt P w H2 am ao ap (match i with | 0 => st | 1 => brStep En pr d r path near far "step" .non 0 b1 st | _ => brStep En pr d r path near far "step" .non 1 b2 (brStep En pr d r path near far "step" .non 0 b1 st))) ?_ ?_ ?_ ?_
    · exact ⟨none, none, none, none, rfl, Fr.same s2, upd_same, L1.same s2⟩
    · rintro i σ H2 hi ⟨_, _, _, _, rfl, fr, hrr, _⟩
      exact SqT.of hrr
    · rintro i y σ H2 H3 hi ⟨n10, n11, n12, n13, rfl, fr, hrr, L⟩ ⟨Tq, y1, y2, rfl, hT, rfl, e1, e2⟩
      cases e1
      have s3 := same_new hT (.tup [.int (i : Nat), y2])
      have fr3 := fr.trans (Fr.same s3)
      refine ⟨Tq, _, rfl, SqT.of upd_same, rfl, _, _, rfl, _, _, rfl, rfl, ?_⟩
      have hi2 : i < 2 := hi
      match i, hi2, e2, L with
      | 0, _, e2, L =>
        have e2' : V.ref p1 = y2 := Option.some.inj e2
        subst e2'
        refine branch_turn (En := En) (r := r) (bd := b1) (kind := "step") hnw (fun z => by cases z) (fun _ => rfl) (fl1.fr L1 fr3) (L.same s3) (by show st.wt + 3 + 9 * szB d b1 ≤ 200000; omega) (fr3.tups _ _ hpt1) (BA_mono fr3.tups hB1) hpd fun H' n12 n13 frn Ln => ?_
        exact ⟨_, _, _, _, rfl, fr3.trans frn, frn.tups _ _ (s3 _ _ hrr), Ln⟩
      | 1, _, e2, L =>
        have e2' : V.ref p2 = y2 := Option.some.inj e2
        subst e2'
        have w4 := brStep_wt (E := En) (pr := pr) (d := d) (r := r) (path := path) (near := near) (far := far) (kind := "step") (what := .non) (j := 0) (b := b1) (st := st)
        refine branch_turn (En := En) (r := r) (bd := b2) (kind := "step") hnw (fun z => by cases z) (fun _ => rfl) (fl1.fr L1 fr3) (L.same s3) (by show (brStep En pr d r path near far "step" .non 0 b1 st).wt + 3 + 9 * szB d b2 ≤ 200000; omega) (fr3.tups _ _ hpt1) (BA_mono fr3.tups hB2) hpd fun H' n12 n13 frn Ln => ?_
        exact ⟨_, _, _, _, rfl, fr3.trans frn, frn.tups _ _ (s3 _ _ hrr), Ln⟩
    · rintro σ H2 ⟨n10, n11, n12, n13, rfl, fr, hrr, L⟩
      exact q _ L (f1.trans fr)
  | when c b1 b2 =>
    have hwt : st.wt + 9 * (1 + (szB d b1 + szB d b2)) ≤ 200002 := hwt
    cases hps1 with
    | @cons p1 _ _ _ hB1 hps2 =>
    cases hps2 with
    | @cons p2 _ _ _ hB2 hps3 =>
    cases hps3
    refine ⟨_, rfl, rfl, _, rfl, ?_⟩
    rw [decide_eq_false (show ¬ V.str (word (.when c b1 b2)) = V.str "skip" from by show ¬ V.str "when" = V.str "skip"; decide +kernel)]
    refine iteF ⟨_, rfl, pw, _, rfl, .inr (T.words _), rfl, rfl, _, rfl, ?_⟩
    rw [show (if false = true then !inV (.str (word (.when c b1 b2))) [.str "touch", .str "write", .str "mark", .str "claim", .str "set", .str "call"] else inV (.str (word (.when c b1 b2))) [.str "touch", .str "write", .str "mark", .str "claim", .str "set", .str "call"]) = false from by show inV (.str "when") [.str "touch", .str "write", .str "mark", .str "claim", .str "set", .str "call"] = false; decide +kernel]
    refine iteF ⟨_, rfl, rfl, _, rfl, ?_⟩
    rw [decide_eq_false (show ¬ V.str (word (.when c b1 b2)) = V.str "hold" from by show ¬ V.str "when" = V.str "hold"; decide +kernel)]
    refine iteF ⟨_, rfl, rfl, _, rfl, ?_⟩
    rw [decide_eq_false (show ¬ V.str (word (.when c b1 b2)) = V.str "loop" from by show ¬ V.str "when" = V.str "loop"; decide +kernel)]
    -- mode
    refine iteF ⟨_, rfl, rfl, _, rfl, ?_⟩
    have hnw : decide (V.str (word (.when c b1 b2)) = V.str "when") = true := decide_eq_true rfl
    rw [hnw]
    refine iteT ⟨_, rfl, a, _, _, _, rfl, rfl, SqT.of ha1, at_of (j := 1) rfl rfl, ?_⟩
    -- statement[-2:]
    refine ⟨_, rfl, _, rfl, _, rfl, a, _, rfl, SqT.of ha1, (by show ¬ (2 = 0 ∧ 4 = 4); decide), fun r1 hr1 => ?_⟩
    have s2 := same_new hr1 (.tup [.ref p1, .ref p2])
    refine ⟨r1, [.ref p1, .ref p2], rfl, SqT.of upd_same, ?_⟩
    refine for_it (walk_enumT (K := K) (a := r1) (xs := [.ref p1, .ref p2])) (fun i σ H2 => ∃ (n10 n11 n12 n13 : Option V), σ = [some (.ref x), some (vN pr), some (.ref pt), some (.ref a), some (.ref en), some (.str (word (.when c b1 b2))), some (vN near), some (vN far), none, some (vN c), n10, n11, n12, n13] ∧
      Fr [am, ao, ap] H1 H2 ∧ H2 r1 = some (.tup [.ref p1, .ref p2]) ∧ LayAt P w H2 am ao ap (match i with | 0 => st | 1 => brStep En pr d r path near far "is" (vN c) 0 b1 st | _ => brStep En pr d r path near far "not" (vN c) 1 b2 (brStep En pr d r path near far "is" (vN c) 0 b1 st))) ?_ ?_ ?_ ?_
    · exact ⟨none, none, none, none, rfl, Fr.same s2, upd_same, L1.same s2⟩
    · rintro i σ H2 hi ⟨_, _, _, _, rfl, fr, hrr, _⟩
      exact SqT.of hrr
    · rintro i y σ H2 H3 hi ⟨n10, n11, n12, n13, rfl, fr, hrr, L⟩ ⟨Tq, y1, y2, rfl, hT, rfl, e1, e2⟩
      cases e1
      have s3 := same_new hT (.tup [.int (i : Nat), y2])
      have fr3 := fr.trans (Fr.same s3)
      refine ⟨Tq, _, rfl, SqT.of upd_same, rfl, _, _, rfl, _, _, rfl, rfl, ?_⟩
      have hi2 : i < 2 := hi
      match i, hi2, e2, L with
      | 0, _, e2, L =>
        have e2' : V.ref p1 = y2 := Option.some.inj e2
        subst e2'
        refine branch_turn (En := En) (r := r) (bd := b1) (kind := "is") hnw (fun _ => rfl) (fun z => by cases z) (fl1.fr L1 fr3) (L.same s3) (by show st.wt + 3 + 9 * szB d b1 ≤ 200000; omega) (fr3.tups _ _ hpt1) (BA_mono fr3.tups hB1) hpd fun H' n12 n13 frn Ln => ?_
        exact ⟨_, _, _, _, rfl, fr3.trans frn, frn.tups _ _ (s3 _ _ hrr), Ln⟩
      | 1, _, e2, L =>
        have e2' : V.ref p2 = y2 := Option.some.inj e2
        subst e2'
        have w4 := brStep_wt (E := En) (pr := pr) (d := d) (r := r) (path := path) (near := near) (far := far) (kind := "is") (what := vN c) (j := 0) (b := b1) (st := st)
        refine branch_turn (En := En) (r := r) (bd := b2) (kind := "not") hnw (fun _ => rfl) (fun z => by cases z) (fl1.fr L1 fr3) (L.same s3) (by show (brStep En pr d r path near far "is" (vN c) 0 b1 st).wt + 3 + 9 * szB d b2 ≤ 200000; omega) (fr3.tups _ _ hpt1) (BA_mono fr3.tups hB2) hpd fun H' n12 n13 frn Ln => ?_
        exact ⟨_, _, _, _, rfl, fr3.trans frn, frn.tups _ _ (s3 _ _ hrr), Ln⟩
    · rintro σ H2 ⟨n10, n11, n12, n13, rfl, fr, hrr, L⟩
      exact q _ L (f1.trans fr)
end
end Dp
namespace Dp
open PySem L2
open C8 (Cal Met Mak pe_c pe_mk pe_mt pe_mt0 pe_gc InsC call_isC)
/-! ### the recursion closed -/
section
variable {P : Program} {w : World} {K : PySem.W.Frag} {mg : Str → Option Value} {base : Heap} {kd pw CP CF : Addr} {f fB fH : Addr} {fd fdB fdH : FuncData}
theorem lay_all (F : GFun K mg "lay_statement" st_lay_statement f fd) (FB : GFun K mg "lay_body" st_lay_body fB fdB) (FH : GFun K mg "lay_hold" st_lay_hold fH fdH) (T : Txt K w mg kd pw CP CF)
    (c_next_place : Cal P w K mg base 1 "next_place" (spNext P w CF) []) (c_lay_move : Cal P w K mg base 1 "lay_move" (spMove P w CF) []) : ∀ d, Cal P w K mg base (3 * d + 1) "lay_statement" (spLayStm P w CF d) [] ∧ Cal P w K mg base (3 * d + 2) "lay_body" (spLayBody P w CF d) []
  | 0 => by
    have b : Binds K fd ["flow", "procedure", "path", "statement", "ends"] [] := F.fn.binds fun _ _ _ _ _ _ us hl => match us, hl with | [_, _, _, _, _], _ => rfl
    have no : ∀ vs H Q E, ¬ spLayStm P w CF 0 vs H Q E := fun vs H Q E h => by
      obtain ⟨_, _, _, _, _, _, _, _, _, _, _, _, _, _, _, _, _, h, _⟩ := h
      exact h
    have c : Cal P w K mg base 1 "lay_statement" (spLayStm P w CF 0) [] := cal_of F b ⟨fun vs H Q E h => absurd h (no vs H Q E), fun A outer s H args us vs Q E _ _ _ _ h => absurd h (no vs H Q E)⟩
    exact ⟨c, ok_lay_body FB T c_next_place c_lay_move c (Nat.le_refl 1)⟩
  | d + 1 => by
    have ih := (lay_all F FB FH T c_next_place c_lay_move d).2
    have cH := ok_lay_hold FH T c_next_place c_lay_move ih (by omega)
    have cS := ok_lay_statement F T c_next_place c_lay_move ih cH (by omega)
    exact ⟨cS, ok_lay_body FB T c_next_place c_lay_move cS (by omega)⟩
end
/-! ### the flow's object -/
def flowF5 (am ao ab ae ap : Addr) : List (Str × V) := [("own_moves", .ref am), ("own_procedures", .ref ao), ("own_begins", .ref ab), ("own_ends", .ref ae), ("own_paths", .ref ap)]
def flowF6 (am ao ab ae ap af : Addr) : List (Str × V) := [("own_moves", .ref am), ("own_procedures", .ref ao), ("own_begins", .ref ab), ("own_ends", .ref ae), ("own_paths", .ref ap), ("own_from", .ref af)]
theorem flowF5_put (am ao ab ae ap : Addr) : putF "own_paths" (.ref ap) (putF "own_ends" (.ref ae) (putF "own_begins" (.ref ab) (putF "own_procedures" (.ref ao) (putF "own_moves" (.ref am) [])))) = flowF5 am ao ab ae ap := by kernel_rfl
theorem flowF6_put (am ao ab ae ap af : Addr) : putF "own_from" (.ref af) (flowF5 am ao ab ae ap) = flowF6 am ao ab ae ap af := by kernel_rfl
theorem f5_moves (am ao ab ae ap : Addr) : (flowF5 am ao ab ae ap).lookup ("own_moves" : Str) = some (V.ref am) := by kernel_rfl
theorem f5_procs (am ao ab ae ap : Addr) : (flowF5 am ao ab ae ap).lookup ("own_procedures" : Str) = some (V.ref ao) := by kernel_rfl
theorem f5_begins (am ao ab ae ap : Addr) : (flowF5 am ao ab ae ap).lookup ("own_begins" : Str) = some (V.ref ab) := by kernel_rfl
theorem f5_ends (am ao ab ae ap : Addr) : (flowF5 am ao ab ae ap).lookup ("own_ends" : Str) = some (V.ref ae) := by kernel_rfl
theorem f5_paths (am ao ab ae ap : Addr) : (flowF5 am ao ab ae ap).lookup ("own_paths" : Str) = some (V.ref ap) := by kernel_rfl
theorem f6_moves (am ao ab ae ap af : Addr) : (flowF6 am ao ab ae ap af).lookup ("own_moves" : Str) = some (V.ref am) := by kernel_rfl
theorem f6_procs (am ao ab ae ap af : Addr) : (flowF6 am ao ab ae ap af).lookup ("own_procedures" : Str) = some (V.ref ao) := by kernel_rfl
theorem f6_begins (am ao ab ae ap af : Addr) : (flowF6 am ao ab ae ap af).lookup ("own_begins" : Str) = some (V.ref ab) := by kernel_rfl
theorem f6_ends (am ao ab ae ap af : Addr) : (flowF6 am ao ab ae ap af).lookup ("own_ends" : Str) = some (V.ref ae) := by kernel_rfl
theorem f6_from (am ao ab ae ap af : Addr) : (flowF6 am ao ab ae ap af).lookup ("own_from" : Str) = some (V.ref af) := by kernel_rfl
/-- the numbers of the moves from a place, of the first k moves -/
def fromK (mv : List Mv) (k x : Nat) : List Nat := (List.range k).filter fun j => decide ((mv[j]?).map Mv.near = some x)
abbrev fromOf (mv : List Mv) (x : Nat) : List Nat := fromK mv mv.length x
theorem fromK_succ {mv : List Mv} {k : Nat} {m : Mv} (h : mv[k]? = some m) (x : Nat) : fromK mv (k + 1) x = if m.near = x then fromK mv k x ++ [k] else fromK mv k x := by
  unfold fromK
  rw [List.range_succ, List.filter_append, List.filter_cons, h]
  by_cases e : m.near = x
  · simp [e]
  · simp [e]
theorem mem_fromK {mv : List Mv} {k x j : Nat} : j ∈ fromK mv k x ↔ j < k ∧ (mv[j]?).map Mv.near = some x := by
  unfold fromK
  rw [List.mem_filter, List.mem_range, decide_eq_true_eq]
/-- a finished flow -/
structure FlowRd (P : Program) (w : World) (CF : Addr) (H : Hp) (x dx am ao ab ae ap af : Addr) (qs : List Addr) (st : LS) (bg : List Nat) : Prop where
  ob : H x = some (.ins CF dx (flowF6 am ao ab ae ap af))
  la : LayAt P w H am ao ap st
  bgs : H ab = some (.lst (bg.map vN))
  ens : H ae = some (.lst ((bg.map (· + 1)).map vN))
  fr : H af = some (.lst (qs.map V.ref))
  ql : qs.length = st.own.length
  frs : ∀ i q, qs[i]? = some q → H q = some (.lst ((fromOf st.mv i).map vN))
theorem FlowRd.same {P : Program} {w : World} {CF : Addr} {H H' : Hp} {x dx am ao ab ae ap af : Addr} {qs : List Addr} {st : LS} {bg : List Nat} (h : FlowRd P w CF H x dx am ao ab ae ap af qs st bg) (s : Same H H') : FlowRd P w CF H' x dx am ao ab ae ap af qs st bg :=
  ⟨s _ _ h.ob, h.la.same s, s _ _ h.bgs, s _ _ h.ens, s _ _ h.fr, h.ql, fun i q e => s _ _ (h.frs i q e)⟩
/-- a new object is kept in a field -/
theorem fld_step {H : Hp} {x p CF dx : Addr} {fs : List (Str × V)} {o : HO} {f : Str} (hx : H x = some (.ins CF dx fs)) (hp : H p = none) :
    (upd H p o) x = some (.ins CF dx fs) ∧ (upd (upd H p o) x (.ins CF dx (putF f (.ref p) fs))) x = some (.ins CF dx (putF f (.ref p) fs)) ∧ (upd (upd H p o) x (.ins CF dx (putF f (.ref p) fs))) p = some o ∧ p ≠ x ∧
    ∀ b u, H b = some u → b ≠ x → (upd (upd H p o) x (.ins CF dx (putF f (.ref p) fs))) b = some u := by
  have n : x ≠ p := ne_of_none hx hp
  refine ⟨by rw [upd_ne n]; exact hx, upd_same, by rw [upd_ne n.symm]; exact upd_same, n.symm, fun b u e hb => ?_⟩
  rw [upd_ne hb, upd_ne (ne_of_none e hp)]
  exact e
theorem layProcs_drop {E : List Nat} {R : Nat → Prop} {d : Nat} {l : List (List Stm)} {p : Nat} {st : LS} {b : List Stm} {r : List (List Stm)} (h : l = b :: r) : layProcs E R d l p st = layProcs E R d r (p + 1) (layOne E R d b p st) := by rw [h]; rfl
section
variable {P : Program} {w : World} {K : PySem.W.Frag} {mg : Str → Option Value} {base : Heap} {kd pw CP CF : Addr} {f : Addr} {fd : FuncData}
def spFlowInit (P : Program) (w : World) (CP CF : Addr) (d : Nat) : Sp := fun vs H Q _ => ∃ (E : List Nat) (R : Nat → Prop) (x dx p : Addr) (sh : Sh) (bodies : List (List Stm)) (th : List Nat), vs = [.ref x, .ref p] ∧ H x = some (.ins CF dx []) ∧ ProgAt CP H p d bodies th ∧
  bodies.length ≤ 6 ∧ (∀ b ∈ bodies, okB sh d b ∧ szB d b ≤ 1000) ∧ d ≤ 100 ∧ (layProcs E R d bodies 0 LS.nil).own.length ≤ 160 ∧
  ∀ H' am ao ab ae ap af qs, (∀ b o, H b = some o → b ≠ x → H' b = some o) → FlowRd P w CF H' x dx am ao ab ae ap af qs (layProcs E R d bodies 0 LS.nil) (begins E R d bodies 0 LS.nil) → Q .non H'
abbrev st_Flow_init : Stmt := inClass (top 39) 0
abbrev N_Flow_init : List Str := ["self", "program", "told", "procedure", "body", "begin", "end", "number", "move", "place"]
theorem sc_Flow_init : FnScope N_Flow_init ["self", "program"] (defScope st_Flow_init) := ⟨rfl, rfl, rfl, by decide +kernel, rfl, by decide +kernel, by decide +kernel⟩
/-- while the procedures are laid -/
structure FlowMid (P : Program) (w : World) (CF : Addr) (H0 H6 H : Hp) (x dx am ao ab ae ap r : Addr) (ps : List Addr) (st : LS) (bg : List Nat) : Prop where
  ob : H x = some (.ins CF dx (flowF5 am ao ab ae ap))
  la : LayAt P w H am ao ap st
  bgs : H ab = some (.lst (bg.map vN))
  ens : H ae = some (.lst ((bg.map (· + 1)).map vN))
  nd : r ≠ ae ∧ r ≠ ab ∧ r ≠ ao ∧ r ≠ am ∧ ae ≠ ab ∧ ae ≠ ao ∧ ae ≠ am ∧ ab ≠ ao ∧ ab ≠ am
  rr : H r = some (.lst (ps.map V.ref))
  keep : ∀ b o, H0 b = some o → b ≠ x → H b = some o
  free : H0 am = none ∧ H0 ao = none ∧ H0 ab = none ∧ H0 ae = none ∧ H0 ap = none
  tu : Tups H6 H
theorem FlowMid.flow {P : Program} {w : World} {CF : Addr} {H0 H6 H : Hp} {x dx am ao ab ae ap r : Addr} {ps : List Addr} {st : LS} {bg : List Nat} (h : FlowMid P w CF H0 H6 H x dx am ao ab ae ap r ps st bg) : FlowIn CF H x am ao ap :=
  ⟨dx, _, h.ob, f5_moves _ _ _ _ _, f5_procs _ _ _ _ _, f5_paths _ _ _ _ _⟩
theorem FlowMid.same {P : Program} {w : World} {CF : Addr} {H0 H6 H H' : Hp} {x dx am ao ab ae ap r : Addr} {ps : List Addr} {st : LS} {bg : List Nat} (h : FlowMid P w CF H0 H6 H x dx am ao ab ae ap r ps st bg) (s : Same H H') : FlowMid P w CF H0 H6 H' x dx am ao ab ae ap r ps st bg :=
  ⟨s _ _ h.ob, h.la.same s, s _ _ h.bgs, s _ _ h.ens, h.nd, s _ _ h.rr, fun b o e hb => s _ _ (h.keep b o e hb), h.free, h.tu.trans s.tups⟩
/-- something was laid -/
theorem FlowMid.laid {P : Program} {w : World} {CF : Addr} {H0 H6 H H' : Hp} {x dx am ao ab ae ap r : Addr} {ps : List Addr} {st st' : LS} {bg : List Nat} (h : FlowMid P w CF H0 H6 H x dx am ao ab ae ap r ps st bg) (L : LayAt P w H' am ao ap st') (f : Fr [am, ao, ap] H H') : FlowMid P w CF H0 H6 H' x dx am ao ab ae ap r ps st' bg := by
  obtain ⟨rs, m1, _⟩ := h.la.mv
  obtain ⟨φ, hφ⟩ := h.la.pa.ext
  obtain ⟨n1, n2, n3, n4, n5, n6, n7, n8, n9⟩ := h.nd
  have nm : ∀ {b : Addr}, b ≠ am → b ≠ ao → b ≠ ap → b ∉ [am, ao, ap] := fun {b} a1 a2 a3 z => by
    have z' : b = am ∨ b = ao ∨ b = ap := by simpa using z
    rcases z' with z | z | z
    · exact a1 z
    · exact a2 z
    · exact a3 z
  have lst : ∀ {b : Addr} {ys : List V}, H b = some (.lst ys) → b ≠ ap := fun e => ne_of e hφ (by intro z; cases z)
  refine ⟨f.but _ _ h.ob (nm (ne_of h.ob m1 (by intro z; cases z)) (ne_of h.ob h.la.own (by intro z; cases z)) (ne_of h.ob hφ (by intro z; cases z))), L, f.but _ _ h.bgs (nm n9 n8 (lst h.bgs)), f.but _ _ h.ens (nm n7 n6 (lst h.ens)), h.nd, f.but _ _ h.rr (nm n4 n3 (lst h.rr)), fun b o e hb => ?_, h.free, h.tu.trans f.tups⟩
  obtain ⟨g1, g2, _, _, g5⟩ := h.free
  exact f.but _ _ (h.keep b o e hb) (nm (ne_of_none e g1) (ne_of_none e g2) (ne_of_none e g5))
/-- a begin is kept -/
theorem FlowMid.begun {P : Program} {w : World} {CF : Addr} {H0 H6 H : Hp} {x dx am ao ab ae ap r : Addr} {ps : List Addr} {st : LS} {bg : List Nat} (h : FlowMid P w CF H0 H6 H x dx am ao ab ae ap r ps st bg) (n : Nat) :
    FlowMid P w CF H0 H6 (upd (upd H ab (.lst ((bg ++ [n]).map vN))) ae (.lst (((bg ++ [n]).map (· + 1)).map vN))) x dx am ao ab ae ap r ps st (bg ++ [n]) := by
  obtain ⟨rs, m1, m2⟩ := h.la.mv
  obtain ⟨φ, hφ⟩ := h.la.pa.ext
  obtain ⟨n1, n2, n3, n4, n5, n6, n7, n8, n9⟩ := h.nd
  have t1 := tups_lst (o := .lst ((bg ++ [n]).map vN)) h.bgs
  have e1 : (upd H ab (.lst ((bg ++ [n]).map vN))) ae = some (.lst ((bg.map (· + 1)).map vN)) := by rw [upd_ne n5]; exact h.ens
  have t2 := t1.trans (tups_lst (o := .lst (((bg ++ [n]).map (· + 1)).map vN)) e1)
  have two : ∀ {b : Addr}, b ≠ ab → b ≠ ae → (upd (upd H ab (.lst ((bg ++ [n]).map vN))) ae (.lst (((bg ++ [n]).map (· + 1)).map vN))) b = H b := fun a1 a2 => by rw [upd_ne a2, upd_ne a1]
  have nl : ∀ {b : Addr} {o : HO}, H b = some o → (∀ ys, o ≠ .lst ys) → b ≠ ab ∧ b ≠ ae := fun e hz => ⟨ne_of e h.bgs (hz _), ne_of e h.ens (hz _)⟩
  refine ⟨?_, ⟨?_, ⟨rs, ?_, paired_mono (fun _ _ e => t2 _ _ e) m2⟩, h.la.pa.keep ?_ t2, h.la.ne⟩, ?_, upd_same, h.nd, ?_, fun b o e hb => ?_, h.free, h.tu.trans t2⟩
  · have z := nl h.ob (fun ys z => by cases z)
    rw [two z.1 z.2]; exact h.ob
  · rw [two n8.symm n6.symm]; exact h.la.own
  · rw [two n9.symm n7.symm]; exact m1
  · have z := nl hφ (fun ys z => by cases z)
    exact two z.1 z.2
  · rw [upd_ne n5.symm]; exact upd_same
  · rw [two n2 n1]; exact h.rr
  · obtain ⟨_, _, g3, g4, _⟩ := h.free
    rw [two (ne_of_none e g3) (ne_of_none e g4)]
    exact h.keep b o e hb
theorem ok_flow_init {d k : Nat} (F : IFun K CF "Flow.__init__" st_Flow_init f fd) (hm : mg "Flow" = some (.ref CF)) (T : Txt K w mg kd pw CP CF) (c_want_program : Cal P w K mg base 1 "want_program" (spWantProgram CP d) []) (c_bodies : Met P w K mg base 1 CP "bodies" (spBodies CP d) [])
    (c_next_place : Cal P w K mg base 1 "next_place" (spNext P w CF) []) (c_lay_body : Cal P w K mg base k "lay_body" (spLayBody P w CF d) []) (hk : 1 ≤ k) : Mak P w K mg base (k + 1) "Flow" CF (spFlowInit P w CP CF d) [] := by
  have b : Binds K fd ["self", "program"] [] := F.fn.binds fun _ _ _ _ _ _ us hl => match us, hl with | [_, _], _ => rfl
  refine mak_of F hm b (F.fn.ok sc_Flow_init (fun vs H Q E h => ?_) (fun cdv A outer s H vs Q E hr h => ?_))
  · obtain ⟨_, _, x, dx, p, sh, bodies, th, rfl, _⟩ := h
    rfl
  obtain ⟨En, R, x, dx, p, sh, bodies, th, rfl, hx, hP, hn6, hok, hd, h160, q⟩ := h
  refine ⟨_, ((pss_cons (ps_set (i := 2) sc_Flow_init.nd rfl (Or.inl rfl) (pe_c c_want_program hr (by omega) (by rfl) (pa_cons (pv 1) pa_nil)))
  (pss_cons (ps_fld (pv 0) (pe_lst pa_nil) rfl)
  (pss_cons (ps_fld (pv 0) (pe_lst pa_nil) rfl)
  (pss_cons (ps_fld (pv 0) (pe_lst pa_nil) rfl)
  (pss_cons (ps_fld (pv 0) (pe_lst pa_nil) rfl)
  (pss_cons (ps_fld (pv 0) pe_dnewN rfl)
  (pss_cons (ps_for PassesOwn.never rfl (pi_enum (by rfl) T.n_enumerate (pa_cons (pe_mt0 c_bodies hr (by omega) (pv 2)) pa_nil)) (pg_tup rfl (pgs_cons (pg_name (i := 3) sc_Flow_init.nd rfl (Or.inl rfl)) (pgs_cons (pg_name (i := 4) sc_Flow_init.nd rfl (Or.inl rfl)) pgs_nil)))
  (pss_cons (ps_set (i := 5) sc_Flow_init.nd rfl (Or.inl rfl) (pe_c c_next_place hr (by omega) (by rfl) (pa_cons (pv 0) (pa_cons (pv 3) pa_nil))))
  (pss_cons (ps_set (i := 6) sc_Flow_init.nd rfl (Or.inl rfl) (pe_c c_next_place hr (by omega) (by rfl) (pa_cons (pv 0) (pa_cons (pv 3) pa_nil))))
  (pss_cons (ps_expr (pe_bm PySem.F.plainAttrs_list PySem.F.slot_list_append PySem.F.type_list_append mt_append (pe_fld (pv 0) rfl) (pa_cons (pv 5) pa_nil)))
  (pss_cons (ps_expr (pe_bm PySem.F.plainAttrs_list PySem.F.slot_list_append PySem.F.type_list_append mt_append (pe_fld (pv 0) rfl) (pa_cons (pv 6) pa_nil)))
  (pss_one (ps_expr (pe_c c_lay_body hr (by omega) (by rfl) (pa_cons (pv 0) (pa_cons (pv 3) (pa_cons (pe_tup pa_nil) (pa_cons (pv 4) (pa_cons (pe_tup (pa_cons (pv 5) (pa_cons (pv 6) pa_nil))) pa_nil)))))))))))))
  (pss_cons (ps_if (pt_cmpR op_gt (pe_callB call_len_seq (by rfl) T.n_len bt_len (pa_cons (pe_fld (pv 0) rfl) pa_nil)) (pe_gc (by rfl) T.c_MOST_PLACES) (nomark _)) (pss_one ps_never) pss_nil)
  (pss_cons (ps_fld (pv 0) (pe_lc (own := [("place", 9)]) (by rfl) sc_Flow_init.nd (pi_list (pe_fld (pv 0) rfl)) (blkOk_by (own := [("place", 9)]) (N := N_Flow_init) (sc := defScope st_Flow_init) (by decide +kernel)) (fun _ _ _ _ _ => (pg_name (i := 9) sc_Flow_init.nd rfl (Or.inl rfl))) (fun _ _ _ _ _ => pts_nil) (fun _ _ _ _ _ => (pe_lst pa_nil))) rfl)
  (pss_one (ps_for PassesOwn.never rfl (pi_enum (by rfl) T.n_enumerate (pa_cons (pe_fld (pv 0) rfl) pa_nil)) (pg_tup rfl (pgs_cons (pg_name (i := 7) sc_Flow_init.nd rfl (Or.inl rfl)) (pgs_cons (pg_name (i := 8) sc_Flow_init.nd rfl (Or.inl rfl)) pgs_nil)))
  (pss_one (ps_expr (pe_bm PySem.F.plainAttrs_list PySem.F.slot_list_append PySem.F.type_list_append mt_append (pe_ix ix_list (pe_fld (pv 0) rfl) (pe_ix ix_tup (pv 8) pe_int (fun _ _ => rfl)) (fun _ _ => rfl)) (pa_cons (pv 7) pa_nil)))))))))))))))), ?_⟩
  -- told = want_program(program)
  refine ⟨_, rfl, p, bodies, th, rfl, hP, ?_⟩
  -- the fields
  refine ⟨Nat.zero_le _, fun am ham => ?_⟩
  obtain ⟨a1, a2, a3, a4, a5⟩ := fld_step (o := .lst []) (f := "own_moves") hx ham
  refine ⟨_, rfl, x, CF, dx, _, rfl, a1, T.isF, T.nF _ (by decide +kernel), (by show 0 < 1000; decide), ?_⟩
  generalize upd (upd H am (.lst [])) x (.ins CF dx (putF "own_moves" (.ref am) [])) = H1 at a2 a3 a5
  refine ⟨Nat.zero_le _, fun ao hao => ?_⟩
  obtain ⟨b1, b2, b3, b4, b5⟩ := fld_step (o := .lst []) (f := "own_procedures") a2 hao
  refine ⟨_, rfl, x, CF, dx, _, rfl, b1, T.isF, T.nF _ (by decide +kernel), few (putF_le (Nat.le_refl 0)) (by decide), ?_⟩
  have n1 := ne_of_none a3 hao
  generalize upd (upd H1 ao (.lst [])) x (.ins CF dx (putF "own_procedures" (.ref ao) (putF "own_moves" (.ref am) []))) = H2 at b2 b3 b5
  refine ⟨Nat.zero_le _, fun ab hab => ?_⟩
  obtain ⟨c1, c2, c3, c4, c5⟩ := fld_step (o := .lst []) (f := "own_begins") b2 hab
  refine ⟨_, rfl, x, CF, dx, _, rfl, c1, T.isF, T.nF _ (by decide +kernel), few (putF_le (putF_le (Nat.le_refl 0))) (by decide), ?_⟩
  have n2 := ne_of_none b3 hab
  have n3 := ne_of_none (b5 _ _ a3 a4) hab
  generalize upd (upd H2 ab (.lst [])) x (.ins CF dx (putF "own_begins" (.ref ab) (putF "own_procedures" (.ref ao) (putF "own_moves" (.ref am) [])))) = H3 at c2 c3 c5
  refine ⟨Nat.zero_le _, fun ae hae => ?_⟩
  obtain ⟨d1, d2, d3, d4, d5⟩ := fld_step (o := .lst []) (f := "own_ends") c2 hae
  refine ⟨_, rfl, x, CF, dx, _, rfl, d1, T.isF, T.nF _ (by decide +kernel), few (putF_le (putF_le (putF_le (Nat.le_refl 0)))) (by decide), ?_⟩
  have n4 := ne_of_none c3 hae
  have n5 := ne_of_none (c5 _ _ b3 b4) hae
  have n6 := ne_of_none (c5 _ _ (b5 _ _ a3 a4) a4) hae
  generalize upd (upd H3 ae (.lst [])) x (.ins CF dx (putF "own_ends" (.ref ae) (putF "own_begins" (.ref ab) (putF "own_procedures" (.ref ao) (putF "own_moves" (.ref am) []))))) = H4 at d2 d3 d5
  -- self.own_paths = {}
  intro ap φ hap ndp
  obtain ⟨e1, e2, e3, e4, e5⟩ := fld_step (o := .ext φ) (f := "own_paths") d2 hap
  refine ⟨_, rfl, x, CF, dx, _, rfl, e1, T.isF, T.nF _ (by decide +kernel), few (putF_le (putF_le (putF_le (putF_le (Nat.le_refl 0))))) (by decide), ?_⟩
  rw [flowF5_put] at e2 e3 e5 ⊢
  have ndp2 : NDict P w (upd (upd H4 ap (.ext φ)) x (.ins CF dx (flowF5 am ao ab ae ap))) ap (fun _ => none) 0 := ndp.keep (upd_ne e4) (tups_upd fun xs z => by rw [e1] at z; cases z)
  generalize upd (upd H4 ap (.ext φ)) x (.ins CF dx (flowF5 am ao ab ae ap)) = H5 at e2 e3 e5 ndp2
  have K5 : ∀ b o, H b = some o → b ≠ x → H5 b = some o := fun b o e hb => e5 _ _ (d5 _ _ (c5 _ _ (b5 _ _ (a5 _ _ e hb) hb) hb) hb) hb
  have L5 : LayAt P w H5 am ao ap LS.nil := ⟨e5 _ _ (d5 _ _ (c5 _ _ b3 b4) b4) b4, ⟨[], e5 _ _ (d5 _ _ (c5 _ _ (b5 _ _ a3 a4) a4) a4) a4, .nil⟩, ndp2, n1⟩
  have hpx : p ≠ x := by
    obtain ⟨dxp, tb, tt, ps, L, C, M, z, _⟩ := hP
    intro e
    rw [e, hx] at z
    have z' := HO.ins.inj (Option.some.inj z)
    exact absurd z'.2.2 (by unfold progF; intro y; cases y)
  have hP5 : ProgAt CP H5 p d bodies th := by
    obtain ⟨dxp, tb, tt, ps, L, C, M, z1, z2, z3, z4⟩ := hP
    exact ⟨dxp, tb, tt, ps, L, C, M, K5 _ _ z1 hpx, K5 _ _ z2 (ne_of z2 hx (by intro z; cases z)), paired_mono (fun _ _ hb => BA_mono (fun b ys e => K5 _ _ e (ne_of e hx (by intro z; cases z))) hb) z3, K5 _ _ z4 (ne_of z4 hx (by intro z; cases z))⟩
  have none_back : ∀ {Hq : Hp} {c : Addr}, (∀ b o, H b = some o → b ≠ x → Hq b = some o) → (∃ o, Hq x = some o) → Hq c = none → H c = none := fun {Hq c} kq hqx hc => by
    cases e : H c with
    | none => rfl
    | some o =>
      by_cases hcx : c = x
      · obtain ⟨o', ho'⟩ := hqx
        rw [hcx, ho'] at hc
        cases hc
      · rw [kq _ _ e hcx] at hc
        cases hc
  have K1 : ∀ b o, H b = some o → b ≠ x → H1 b = some o := a5
  have K2 : ∀ b o, H b = some o → b ≠ x → H2 b = some o := fun b o e hb => b5 _ _ (K1 b o e hb) hb
  have K3 : ∀ b o, H b = some o → b ≠ x → H3 b = some o := fun b o e hb => c5 _ _ (K2 b o e hb) hb
  have K4 : ∀ b o, H b = some o → b ≠ x → H4 b = some o := fun b o e hb => d5 _ _ (K3 b o e hb) hb
  -- for procedure, body in enumerate(told.bodies())
  obtain ⟨dxp, tb, tt, psp, Lp, Cp, Mp, z1, z2, z3, z4⟩ := id hP5
  refine ⟨_, rfl, p, dxp, _, rfl, z1, progF_m1 _ _ _ _ _, p, bodies, th, rfl, hP5, fun r ps H6 s6 hr6 hrn hps => ?_⟩
  have hpl := paired_len hps
  have mid0 : FlowMid P w CF H H6 H6 x dx am ao ab ae ap r ps LS.nil [] := by
    refine ⟨s6 _ _ e2, L5.same s6, s6 _ _ (e5 _ _ (d5 _ _ c3 c4) c4), s6 _ _ (e5 _ _ d3 d4), ?_, hr6, fun b o e hb => s6 _ _ (K5 b o e hb), ?_, Tups.refl _⟩
    · have rn : ∀ {c : Addr} {o : HO}, H5 c = some o → r ≠ c := fun e => (ne_of_none e hrn).symm
      exact ⟨rn (e5 _ _ d3 d4), rn (e5 _ _ (d5 _ _ c3 c4) c4), rn L5.own, rn (e5 _ _ (d5 _ _ (c5 _ _ (b5 _ _ a3 a4) a4) a4) a4), n4.symm, n5.symm, n6.symm, n2.symm, n3.symm⟩
    · exact ⟨ham, none_back K1 ⟨_, a2⟩ hao, none_back K2 ⟨_, b2⟩ hab, none_back K3 ⟨_, c2⟩ hae, none_back K4 ⟨_, d2⟩ hap⟩
  refine ⟨r, _, rfl, SqL.of hr6, ?_⟩
  refine for_it (walk_enum (K := K) (a := r) (xs := ps.map V.ref)) (fun i σ H7 => ∃ (n3 n4 n5 n6 : Option V) (sti : LS) (bgi : List Nat), σ = [some (.ref x), some (.ref p), some (.ref p), n3, n4, n5, n6, none, none, none] ∧
    FlowMid P w CF H H6 H7 x dx am ao ab ae ap r ps sti bgi ∧ sti.wt ≤ 9003 * i ∧ layProcs En R d (bodies.drop i) i sti = layProcs En R d bodies 0 LS.nil ∧ bgi ++ begins En R d (bodies.drop i) i sti = begins En R d bodies 0 LS.nil) ?_ ?_ ?_ ?_
  · exact ⟨none, none, none, none, LS.nil, [], rfl, mid0, Nat.le_refl 0, rfl, rfl⟩
  · rintro i σ H7 hi ⟨_, _, _, _, _, _, rfl, M, _⟩
    exact SqL.of M.rr
  · rintro i y σ H7 H8 hi ⟨n3, n4, n5, n6, sti, bgi, rfl, M, hw, hfin, hbg⟩ ⟨Tq, y1, y2, rfl, hT, rfl, e1, e2⟩
    cases e1
    obtain ⟨bp, hbp, rfl⟩ : ∃ bp, ps[i]? = some bp ∧ V.ref bp = y2 := by
      have e2' : (ps.map V.ref)[i]? = some y2 := e2
      rw [List.getElem?_map] at e2'
      exact Option.map_eq_some_iff.mp e2'
    obtain ⟨bd, hbd, hba⟩ := paired_at hps hbp
    have hmem : bd ∈ bodies := List.mem_of_getElem? hbd
    have hi6 : i < bodies.length := (List.getElem?_eq_some_iff.mp hbd).1
    have ed := drop_cons hbd
    rw [layProcs_drop ed] at hfin
    rw [ed] at hbg
    have hw54 : sti.wt ≤ 54018 := by
      have : 9003 * i ≤ 9003 * 5 := Nat.mul_le_mul_left _ (by omega)
      omega
    have hsz := (hok bd hmem).2
    have s8 := same_new hT (.tup [.int (i : Nat), .ref bp])
    have M8 := M.same s8
    refine ⟨Tq, _, rfl, SqT.of upd_same, rfl, _, _, rfl, _, _, rfl, rfl, ?_⟩
    -- begin, end
    refine ⟨_, rfl, _, rfl, x, am, ao, ap, i, sti, rfl, M8.flow, M8.la, by omega, fun H9 L9 f9 => ?_⟩
    have L9 := L9 (R i)
    have M9 := M8.laid L9 f9
    have w9 := wt_next sti i (R i)
    have o9 : (sti.next i (R i)).own.length = sti.own.length + 1 := own_next
    refine ⟨_, rfl, _, rfl, x, am, ao, ap, i, sti.next i (R i), rfl, M9.flow, M9.la, by omega, fun H10 L10 f10 => ?_⟩
    have L10 := L10 (R i ∧ canB En d bd = true)
    have M10 := M9.laid L10 f10
    have w10 := wt_next (sti.next i (R i)) i (R i ∧ canB En d bd = true)
    rw [o9]
    -- own_begins.append(begin), own_ends.append(end)
    have lb : bgi.length ≤ 1000000 := by
      have := congrArg List.length hbg
      rw [List.length_append, begins_len, begins_len] at this
      omega
    refine ⟨_, rfl, x, CF, dx, _, _, rfl, M10.ob, T.isF, T.nF _ (by decide +kernel), f5_begins _ _ _ _ _, .inl ⟨rfl, _, SqL.of M10.bgs⟩, _, rfl, ab, _, _, rfl, rfl, M10.bgs, lt_sizeLine (by rw [List.length_map]; exact lb), ?_⟩
    have nxb : x ≠ ab := ne_of M10.ob M10.bgs (by intro z; cases z)
    have nab : ae ≠ ab := M10.nd.2.2.2.2.1
    refine ⟨_, rfl, x, CF, dx, _, _, rfl, (by rw [upd_ne nxb]; exact M10.ob), T.isF, T.nF _ (by decide +kernel), f5_ends _ _ _ _ _, .inl ⟨rfl, _, SqL.of (by rw [upd_ne nab]; exact M10.ens)⟩, _, rfl, ae, _, _, rfl, rfl, (by rw [upd_ne nab]; exact M10.ens), lt_sizeLine (by rw [List.length_map, List.length_map]; exact lb), ?_⟩
    have M11 := M10.begun sti.own.length
    have q1 : (bgi ++ [sti.own.length]).map vN = bgi.map vN ++ [vN sti.own.length] := by rw [List.map_append]; rfl
    have q2 : ((bgi ++ [sti.own.length]).map (· + 1)).map vN = (bgi.map (· + 1)).map vN ++ [vN (sti.own.length + 1)] := by rw [List.map_append, List.map_append]; rfl
    rw [q1, q2] at M11
    generalize upd (upd H10 ab (.lst (bgi.map vN ++ [vN sti.own.length]))) ae (.lst ((bgi.map (· + 1)).map vN ++ [vN (sti.own.length + 1)])) = H11 at M11
    -- lay_body(self, procedure, (), body, (begin, end))
    refine ⟨_, rfl, _, rfl, Nat.zero_le _, fun p1 hp1 => ?_⟩
    have t1 := same_new hp1 (.tup [])
    refine ⟨_, rfl, _, rfl, _, rfl, by show 2 ≤ sizeLine; decide, fun p2 hp2 => ?_⟩
    have t2 := same_new hp2 (.tup [vN sti.own.length, vN (sti.own.length + 1)])
    have t12 := t1.trans t2
    have M12 := M11.same t12
    refine ⟨En, R i, x, am, ao, ap, _, p1, p2, bp, i, [], sti.own.length, sti.own.length + 1, bd, rfl, ⟨M12.flow, M12.la, by omega, t2 _ _ upd_same, upd_same, by show 0 ≤ 1000; decide⟩, BA_mono M12.tu hba, by show 0 + 2 * d + 1 ≤ 1000; omega, fun H13 L13 f13 => ?_⟩
    have M13 := M12.laid L13 f13
    have w13 := layOne_wt (E := En) (R := R) (d := d) (b := bd) (p := i) (st := sti)
    refine ⟨_, _, _, _, layOne En R d bd i sti, bgi ++ [sti.own.length], rfl, M13, by omega, hfin, ?_⟩
    rw [List.append_assoc]
    exact hbg
  · rintro σ H7 ⟨n3, n4, n5, n6, stn, bgn, rfl, M, hw, hfin, hbg⟩
    have el : (ps.map V.ref).length = bodies.length := by rw [List.length_map, hpl]
    rw [el, List.drop_length] at hfin hbg
    have hst : stn = layProcs En R d bodies 0 LS.nil := hfin
    have hbgn : bgn = begins En R d bodies 0 LS.nil := by
      have z : bgn ++ [] = begins En R d bodies 0 LS.nil := hbg
      rw [List.append_nil] at z
      exact z
    rw [hst, hbgn] at M
    have hLO : LOk sh.P (layProcs En R d bodies 0 LS.nil) := layProcs_ok bodies 0 LS.nil (fun b hb => (hok b hb).1) fun m hm => nomatch hm
    have hmvl : (layProcs En R d bodies 0 LS.nil).mv.length ≤ 1000000 := by
      rw [← hst]
      have : stn.mv.length ≤ stn.wt := by unfold LS.wt; omega
      have : 9003 * (ps.map V.ref).length ≤ 9003 * 6 := Nat.mul_le_mul_left _ (by omega)
      omega
    generalize layProcs En R d bodies 0 LS.nil = Fs at M hLO h160 q hmvl
    generalize begins En R d bodies 0 LS.nil = Bg at M q
    -- if len(self.own_procedures) > MOST_PLACES
    refine ⟨_, rfl, x, CF, dx, _, _, rfl, M.ob, T.isF, T.nF _ (by decide +kernel), f5_procs _ _ _ _ _, ao, _, rfl, .inl (SqL.of M.la.own), _, _, rfl, rfl, _, rfl, ?_⟩
    rw [decide_eq_false (by rw [List.length_map]; omega)]
    refine iteF ?_
    -- self.own_from = [[] for place in self.own_procedures]
    refine ⟨_, rfl, x, CF, dx, _, _, rfl, M.ob, T.isF, T.nF _ (by decide +kernel), f5_procs _ _ _ _ _, ao, rfl, ⟨_, SqL.of M.la.own⟩, fun D hD => ?_⟩
    refine lc_list (K := K) (a := ao) (xs := Fs.own.map vN) (fun i H1 => ∃ qs : List Addr, Same H7 H1 ∧ H1 D = some (.lst (qs.map V.ref)) ∧ qs.length = i ∧ qs.Nodup ∧ ∀ q ∈ qs, H1 q = some (.lst []) ∧ H7 q = none ∧ q ≠ D) ⟨[], same_new hD _, upd_same, rfl, List.nodup_nil, fun q hq => nomatch hq⟩ (fun i H1 _ h1 => ?_) ?_ ?_
    · obtain ⟨qs, h1, _⟩ := h1
      exact SqL.of (h1 _ _ M.la.own)
    · rintro i y H1 hi ⟨qs, h1, h2, h3, h4, h5⟩
      have hi' : i < Fs.own.length := by
        have := (List.getElem?_eq_some_iff.mp hi).1
        rw [List.length_map] at this
        exact this
      refine ⟨rfl, Nat.zero_le _, fun qn hqn => ?_⟩
      have nD : D ≠ qn := ne_of_none h2 hqn
      have sq := same_new hqn (.lst [])
      have n7 : H7 qn = none := by
        cases e : H7 qn with
        | none => rfl
        | some o =>
          rw [h1 _ _ e] at hqn
          cases hqn
      refine ⟨_, sq _ _ h2, lt_sizeLine (by rw [List.length_map]; omega), qs ++ [qn], fun c o e => ?_, ?_, by rw [List.length_append, List.length_singleton, h3], ?_, fun c hc => ?_⟩
      · rw [upd_ne (ne_of_none e hD)]
        exact sq _ _ (h1 _ _ e)
      · rw [upd_same, List.map_append]
        rfl
      · refine List.nodup_append.mpr ⟨h4, by simp, fun a ha b hb => ?_⟩
        rw [List.mem_singleton.mp hb]
        exact ne_of_none (h5 a ha).1 hqn
      · rcases List.mem_append.mp hc with hc | hc
        · obtain ⟨g1, g2, g3⟩ := h5 c hc
          exact ⟨by rw [upd_ne g3]; exact sq _ _ g1, g2, g3⟩
        · rw [List.mem_singleton.mp hc]
          exact ⟨by rw [upd_ne nD.symm]; exact upd_same, n7, nD.symm⟩
    · rintro H8 ⟨qs, h1, h2, h3, h4, h5⟩
      have h3' : qs.length = Fs.own.length := by rw [h3, List.length_map]
      have M8 := M.same h1
      have nxD : x ≠ D := ne_of M8.ob h2 (by intro z; cases z)
      refine ⟨_, rfl, x, CF, dx, _, rfl, M8.ob, T.isF, T.nF _ (by decide +kernel), (by show 5 < 1000; decide), ?_⟩
      rw [flowF6_put]
      have k9 : ∀ b o, H8 b = some o → b ≠ x → (upd H8 x (.ins CF dx (flowF6 am ao ab ae ap D))) b = some o := fun b o e hb => by rw [upd_ne hb]; exact e
      have ob9 : (upd H8 x (.ins CF dx (flowF6 am ao ab ae ap D))) x = some (.ins CF dx (flowF6 am ao ab ae ap D)) := upd_same
      have t9 : Tups H8 (upd H8 x (.ins CF dx (flowF6 am ao ab ae ap D))) := tups_upd fun xs z => by rw [M8.ob] at z; cases z
      generalize upd H8 x (.ins CF dx (flowF6 am ao ab ae ap D)) = H9 at k9 ob9 t9
      have nx : ∀ {b : Addr} {o : HO}, H8 b = some o → (∀ fs, o ≠ .ins CF dx fs) → b ≠ x := fun e hz => ne_of e M8.ob (hz _)
      have L9 : LayAt P w H9 am ao ap Fs := by
        obtain ⟨rs, m1, m2⟩ := M8.la.mv
        obtain ⟨φ, hφ⟩ := M8.la.pa.ext
        exact ⟨k9 _ _ M8.la.own (nx M8.la.own (fun fs z => by cases z)), ⟨rs, k9 _ _ m1 (nx m1 (fun fs z => by cases z)), paired_mono (fun _ _ e => t9 _ _ e) m2⟩, M8.la.pa.keep (by rw [hφ]; exact k9 _ _ hφ (nx hφ (fun fs z => by cases z))) t9, M8.la.ne⟩
      have bg9 := k9 _ _ M8.bgs (nx M8.bgs (fun fs z => by cases z))
      have en9 := k9 _ _ M8.ens (nx M8.ens (fun fs z => by cases z))
      have D9 := k9 _ _ h2 nxD.symm
      have qs9 : ∀ c ∈ qs, H9 c = some (.lst []) := fun c hc => k9 _ _ (h5 c hc).1 (nx (h5 c hc).1 (fun fs z => by cases z))
      -- nothing that stood lies in qs
      have apart : ∀ {b : Addr} {o : HO}, H7 b = some o → b ∉ qs := fun e hq => by
        rw [(h5 _ hq).2.1] at e
        cases e
      have aD : D ∉ qs := fun hq => (h5 _ hq).2.2 rfl
      -- for number, move in enumerate(self.own_moves)
      obtain ⟨rs, m1, m2⟩ := id L9.mv
      obtain ⟨rs7, m17, m27⟩ := id M.la.mv
      have hrs := paired_len m2
      refine ⟨_, rfl, x, CF, dx, _, _, rfl, ob9, T.isF, T.nF _ (by decide +kernel), f6_moves _ _ _ _ _ _, am, _, rfl, SqL.of m1, ?_⟩
      refine for_it (walk_enum (K := K) (a := am) (xs := rs.map V.ref)) (fun k σ H10 => ∃ (n3 n4 n5 n6 n7 n8 : Option V), σ = [some (.ref x), some (.ref p), some (.ref p), n3, n4, n5, n6, n7, n8, none] ∧ (∀ b o, H9 b = some o → b ∉ qs → H10 b = some o) ∧
        ∀ i c, qs[i]? = some c → H10 c = some (.lst ((fromK Fs.mv k i).map vN))) ?_ ?_ ?_ ?_
      · exact ⟨_, _, _, _, none, none, rfl, fun b o e _ => e, fun i c hc => qs9 c (List.mem_of_getElem? hc)⟩
      · rintro k σ H10 hk ⟨_, _, _, _, _, _, rfl, g1, _⟩
        exact SqL.of (g1 _ _ m1 (apart m17))
      · rintro k y σ H10 H11 hk' ⟨n3, n4, n5, n6, n7, n8, rfl, g1, g2⟩ ⟨Tq, y1, y2, rfl, hT, rfl, e1, e2⟩
        cases e1
        obtain ⟨rk, hrk, rfl⟩ : ∃ rk, rs[k]? = some rk ∧ V.ref rk = y2 := by
          have e2' : (rs.map V.ref)[k]? = some y2 := e2
          rw [List.getElem?_map] at e2'
          exact Option.map_eq_some_iff.mp e2'
        obtain ⟨m, hm', htup⟩ := paired_at m2 hrk
        have hnear : m.near < Fs.own.length := (hLO m (List.mem_of_getElem? hm')).near
        have hq : m.near < qs.length := by rw [h3']; exact hnear
        have hqe : qs[m.near]? = some qs[m.near] := List.getElem?_eq_getElem hq
        have s11 := same_new hT (.tup [.int (k : Nat), .ref rk])
        have nT : ∀ c ∈ qs, c ≠ Tq := fun c hc => by
          obtain ⟨i, hi⟩ := List.mem_iff_getElem?.mp hc
          exact ne_of_none (g2 i c hi) hT
        refine ⟨Tq, _, rfl, SqT.of upd_same, rfl, _, _, rfl, _, _, rfl, rfl, ?_⟩
        have ob11 := s11 _ _ (g1 _ _ ob9 (fun hq => by rw [qs9 x hq] at ob9; cases ob9))
        have rk_q : rk ∉ qs := fun hq => by rw [qs9 rk hq] at htup; cases htup
        have old := s11 _ _ (g2 _ _ hqe)
        refine ⟨_, rfl, x, CF, dx, _, _, rfl, ob11, T.isF, T.nF _ (by decide +kernel), f6_from _ _ _ _ _ _, _, rfl, rk, _, _, _, rfl, rfl, SqT.of (s11 _ _ (g1 _ _ htup rk_q)), at_of (j := 0) rfl rfl, D, _, _, _, rfl, rfl, SqL.of (s11 _ _ (g1 _ _ D9 aD)), atI_nat (v := .ref qs[m.near]) (by rw [List.getElem?_map, hqe]; rfl), ?_⟩
        have hlk : (fromK Fs.mv k m.near).length ≤ k := by
          have := List.length_filter_le (fun j => decide ((Fs.mv[j]?).map Mv.near = some m.near)) (List.range k)
          rw [List.length_range] at this
          exact this
        have hkm : k < Fs.mv.length := (List.getElem?_eq_some_iff.mp hm').1
        have hmvlen := hmvl
        refine ⟨.inl ⟨rfl, _, SqL.of old⟩, _, rfl, qs[m.near], _, _, rfl, rfl, old, lt_sizeLine (by rw [List.length_map]; omega), ?_⟩
        refine ⟨_, _, _, _, _, _, rfl, fun b o e hb => ?_, fun i c hc => ?_⟩
        · rw [upd_ne fun z => hb (by rw [z]; exact List.mem_of_getElem? hqe)]
          exact s11 _ _ (g1 _ _ e hb)
        · rw [fromK_succ hm']
          by_cases hin : m.near = i
          · rw [if_pos hin]
            have hc' : c = qs[m.near] := by
              rw [← hin, hqe] at hc
              exact (Option.some.inj hc).symm
            rw [hc', upd_same, List.map_append, hin]
            rfl
          · rw [if_neg hin]
            have hne : c ≠ qs[m.near] := fun z => hin (by
              rw [z, ← hqe] at hc
              exact (List.getElem?_inj hq h4).mp hc.symm)
            rw [upd_ne hne]
            exact s11 _ _ (g2 _ _ hc)
      · rintro σ H10 ⟨n3, n4, n5, n6, n7, n8, rfl, g1, g2⟩
        have K7 : ∀ b o, H b = some o → b ≠ x → H10 b = some o := fun b o e hb => g1 _ _ (k9 _ _ (h1 _ _ (M.keep _ _ e hb)) hb) (apart (M.keep _ _ e hb))
        obtain ⟨φ, hφ⟩ := L9.pa.ext
        obtain ⟨φ7, hφ7⟩ := M.la.pa.ext
        have t10 : Tups H9 H10 := fun b ys e => g1 _ _ e (fun hq => by rw [qs9 b hq] at e; cases e)
        refine q H10 am ao ab ae ap D qs K7 ⟨g1 _ _ ob9 (fun hq => by rw [qs9 x hq] at ob9; cases ob9), ⟨g1 _ _ L9.own (apart M.la.own), ⟨rs, g1 _ _ m1 (apart m17), paired_mono (fun _ _ e => t10 _ _ e) m2⟩, L9.pa.keep (by rw [hφ]; exact g1 _ _ hφ (apart hφ7)) t10, L9.ne⟩, g1 _ _ bg9 (apart M.bgs), g1 _ _ en9 (apart M.ens), g1 _ _ D9 aD, h3', fun i c hc => ?_⟩
        have z := g2 i c hc
        rw [List.length_map, hrs] at z
        exact z
end
end Dp
namespace Dp
open PySem L2
/-! ### the worklist, in plain Lean -/
section
variable {mv : List Mv} {bg : Nat → Nat} {th : List Nat} {n : Nat}
abbrev Al (mv : List Mv) (bg : Nat → Nat) (th : List Nat) : Nat → Prop := Alive mv bg (fun p => bg p + 1) th
def Clo (bg : Nat → Nat) (A : List Nat) (W : List (Nat × Nat)) (m : Mv) : Prop := (¬ m.kind = "call" → m.far ∈ A) ∧ ∀ w : Nat, m.kind = "call" → m.what = vN w → bg w ∈ A ∧ (bg w + 1, m.far) ∈ W
theorem Clo.mono {A A' : List Nat} {W W' : List (Nat × Nat)} {m : Mv} (h : Clo bg A W m) (ha : ∀ x ∈ A, x ∈ A') (hw : ∀ x ∈ W, x ∈ W') : Clo bg A' W' m :=
  ⟨fun e => ha _ (h.1 e), fun w e1 e2 => ⟨ha _ (h.2 w e1 e2).1, hw _ (h.2 w e1 e2).2⟩⟩
structure DW (mv : List Mv) (bg : Nat → Nat) (th : List Nat) (n : Nat) (A L : List Nat) (W : List (Nat × Nat)) : Prop where
  al : ∀ x ∈ A, Al mv bg th x ∧ x < n
  sub : ∀ x ∈ L, x ∈ A
  ws : ∀ e ∈ W, (Al mv bg th e.1 → Al mv bg th e.2) ∧ e.2 < n
  mc : ∀ m ∈ mv, m.near ∈ A → m.near ∈ L ∨ Clo bg A W m
  wc : ∀ e ∈ W, e.1 ∈ A → e.2 ∈ A ∨ e.1 ∈ L
  tc : ∀ t ∈ th, bg t ∈ A
theorem DW.done {A : List Nat} {W : List (Nat × Nat)} (h : DW mv bg th n A [] W) (x : Nat) : x ∈ A ↔ Al mv bg th x := by
  refine ⟨fun hx => (h.al x hx).1, fun ha => ?_⟩
  induction ha with
  | thread ht => exact h.tc _ ht
  | step hm hk _ ih => exact ((h.mc _ hm ih).resolve_left (fun z => nomatch z)).1 hk
  | callee hm hk hw _ ih => exact (((h.mc _ hm ih).resolve_left (fun z => nomatch z)).2 _ hk hw).1
  | back hm hk hw _ _ ih1 ih2 => exact (h.wc _ (((h.mc _ hm ih1).resolve_left (fun z => nomatch z)).2 _ hk hw).2 ih2).resolve_right (fun z => nomatch z)
theorem DW.start (hb : ∀ t ∈ th, bg t < n) : DW mv bg th n (th.map bg) (th.map bg) [] where
  al x hx := by
    obtain ⟨t, ht, rfl⟩ := List.mem_map.mp hx
    exact ⟨.thread ht, hb t ht⟩
  sub x hx := hx
  ws e he := nomatch he
  mc m _ h := .inl h
  wc e he := nomatch he
  tc t ht := List.mem_map.mpr ⟨t, ht, rfl⟩
/-- a turn over the numbers -/
structure DN (mv : List Mv) (bg : Nat → Nat) (th : List Nat) (n : Nat) (A : List Nat) (W : List (Nat × Nat)) (here : Nat) (F : List Nat) (j : Nat) (M : List Nat) (W' : List (Nat × Nat)) : Prop where
  ms : ∀ x ∈ M, Al mv bg th x ∧ x < n
  w0 : ∀ e ∈ W, e ∈ W'
  w1 : ∀ e ∈ W', (e ∈ W ∨ (e.1 ∈ A → e.2 ∈ M)) ∧ (Al mv bg th e.1 → Al mv bg th e.2) ∧ e.2 < n
  wm : ∀ e ∈ W, e.1 = here → e.2 ∈ M
  cl : ∀ (i k : Nat) (m : Mv), i < j → F[i]? = some k → mv[k]? = some m → Clo bg M W' m
theorem DN.start {A L : List Nat} {W : List (Nat × Nat)} {here : Nat} {F : List Nat} (h : DW mv bg th n A L W) (hh : here ∈ A) : DN mv bg th n A W here F 0 ((W.filter fun e => decide (e.1 = here)).map (·.2)) W where
  ms x hx := by
    obtain ⟨e, he, rfl⟩ := List.mem_map.mp hx
    obtain ⟨h1, h2⟩ := List.mem_filter.mp he
    have z := h.ws e h1
    rw [of_decide_eq_true h2] at z
    exact ⟨z.1 (h.al _ hh).1, z.2⟩
  w0 e he := he
  w1 e he := ⟨.inl he, h.ws e he⟩
  wm e he hq := List.mem_map.mpr ⟨e, List.mem_filter.mpr ⟨he, decide_eq_true hq⟩, rfl⟩
  cl i k m hi := absurd hi (Nat.not_lt_zero i)
theorem DN.plain {A : List Nat} {W W' : List (Nat × Nat)} {here : Nat} {F M : List Nat} {j k : Nat} {m : Mv} (h : DN mv bg th n A W here F j M W') (hF : F[j]? = some k) (hm : mv[k]? = some m) (hc : ¬ m.kind = "call") (ha : Al mv bg th m.near) (hf : m.far < n) :
    DN mv bg th n A W here F (j + 1) (M ++ [m.far]) W' where
  ms x hx := by
    rcases List.mem_append.mp hx with hx | hx
    · exact h.ms x hx
    · rw [List.mem_singleton.mp hx]
      exact ⟨.step (List.mem_of_getElem? hm) hc ha, hf⟩
  w0 := h.w0
  w1 e he := by
    obtain ⟨a, b⟩ := h.w1 e he
    exact ⟨a.imp id (fun q z => List.mem_append_left _ (q z)), b⟩
  wm e he hq := List.mem_append_left _ (h.wm e he hq)
  cl i k' m' hi h1 h2 := by
    rcases Nat.lt_succ_iff_lt_or_eq.mp hi with hi | hi
    · exact (h.cl i k' m' hi h1 h2).mono (fun x hx => List.mem_append_left _ hx) (fun x hx => hx)
    · rw [hi, hF] at h1
      cases h1
      rw [hm] at h2
      cases h2
      exact ⟨fun _ => List.mem_append_right _ (List.mem_singleton_self _), fun w e => absurd e hc⟩
theorem DN.call {A : List Nat} {W W' : List (Nat × Nat)} {here : Nat} {F M M' : List Nat} {j k w : Nat} {m : Mv} (h : DN mv bg th n A W here F j M W') (hF : F[j]? = some k) (hm : mv[k]? = some m) (hc : m.kind = "call") (hw : m.what = vN w) (ha : Al mv bg th m.near) (hf : m.far < n) (hb : bg w < n)
    (hA : ∀ x ∈ A, Al mv bg th x) (hM : M' = if decide (bg w + 1 ∈ A) = true then (M ++ [bg w]) ++ [m.far] else M ++ [bg w]) : DN mv bg th n A W here F (j + 1) M' (W' ++ [(bg w + 1, m.far)]) := by
  have sub : ∀ x ∈ M ++ [bg w], x ∈ M' := fun x hx => by
    rw [hM]
    split
    · exact List.mem_append_left _ hx
    · exact hx
  have back : Al mv bg th (bg w + 1) → Al mv bg th m.far := fun z => Alive.back (List.mem_of_getElem? hm) hc hw ha z
  refine ⟨fun x hx => ?_, fun e he => List.mem_append_left _ (h.w0 e he), fun e he => ?_, fun e he hq => sub _ (List.mem_append_left _ (h.wm e he hq)), fun i k' m' hi h1 h2 => ?_⟩
  · have hx' : x ∈ M ++ [bg w] ∨ (x = m.far ∧ bg w + 1 ∈ A) := by
      rw [hM] at hx
      split at hx
      · rename_i hd
        rcases List.mem_append.mp hx with hx | hx
        · exact .inl hx
        · exact .inr ⟨List.mem_singleton.mp hx, of_decide_eq_true hd⟩
      · exact .inl hx
    rcases hx' with hx | ⟨rfl, hd⟩
    · rcases List.mem_append.mp hx with hx | hx
      · exact h.ms x hx
      · rw [List.mem_singleton.mp hx]
        exact ⟨.callee (List.mem_of_getElem? hm) hc hw ha, hb⟩
    · exact ⟨back (hA _ hd), hf⟩
  · rcases List.mem_append.mp he with he | he
    · obtain ⟨a, b⟩ := h.w1 e he
      exact ⟨a.imp id (fun q z => sub _ (List.mem_append_left _ (q z))), b⟩
    · rw [List.mem_singleton.mp he]
      refine ⟨.inr fun z => ?_, back, hf⟩
      rw [hM, if_pos (decide_eq_true z)]
      exact List.mem_append_right _ (List.mem_singleton_self _)
  · rcases Nat.lt_succ_iff_lt_or_eq.mp hi with hi | hi
    · exact (h.cl i k' m' hi h1 h2).mono (fun x hx => sub _ (List.mem_append_left _ hx)) (fun x hx => List.mem_append_left _ hx)
    · rw [hi, hF] at h1
      cases h1
      rw [hm] at h2
      cases h2
      refine ⟨fun z => absurd hc z, fun w' _ e => ?_⟩
      have ew : w' = w := by
        have := V.int.inj (e.symm.trans hw)
        omega
      rw [ew]
      exact ⟨sub _ (List.mem_append_right _ (List.mem_singleton_self _)), List.mem_append_right _ (List.mem_singleton_self _)⟩
/-- the places of a turn -/
structure DA (mv : List Mv) (bg : Nat → Nat) (th : List Nat) (n : Nat) (A L0 M : List Nat) (i : Nat) (A' L' : List Nat) : Prop where
  al : ∀ x ∈ A', Al mv bg th x ∧ x < n
  a0 : ∀ x ∈ A, x ∈ A'
  a1 : ∀ x ∈ A', x ∈ A ∨ x ∈ L'
  l0 : ∀ x ∈ L0, x ∈ L'
  sub : ∀ x ∈ L', x ∈ A'
  mi : ∀ (k x : Nat), k < i → M[k]? = some x → x ∈ A'
  mu : L'.length + 2 * (n - cnt n A') ≤ L0.length + 2 * (n - cnt n A)
  len : A'.length ≤ th.length + cnt n A'
  ll : L'.length ≤ A'.length
theorem DA.skip {A L0 M A' L' : List Nat} {i x : Nat} (h : DA mv bg th n A L0 M i A' L') (hx : M[i]? = some x) (hin : x ∈ A') : DA mv bg th n A L0 M (i + 1) A' L' :=
  ⟨h.al, h.a0, h.a1, h.l0, h.sub, fun k y hk e => by
    rcases Nat.lt_succ_iff_lt_or_eq.mp hk with hk | hk
    · exact h.mi k y hk e
    · rw [hk, hx] at e
      cases e
      exact hin, h.mu, h.len, h.ll⟩
theorem DA.add {A L0 M A' L' : List Nat} {i x : Nat} (h : DA mv bg th n A L0 M i A' L') (hx : M[i]? = some x) (hin : ¬ x ∈ A') (ha : Al mv bg th x ∧ x < n) : DA mv bg th n A L0 M (i + 1) (A' ++ [x]) (L' ++ [x]) := by
  have c1 : cnt n A' < cnt n (A' ++ [x]) := cnt_lt (fun y hy => List.mem_append_left _ hy) ha.2 hin (List.mem_append_right _ (List.mem_singleton_self _))
  have c2 := cnt_le n (A' ++ [x])
  have m1 := h.mu
  have m2 := h.len
  have m3 := h.ll
  refine ⟨fun y hy => ?_, fun y hy => List.mem_append_left _ (h.a0 y hy), fun y hy => ?_, fun y hy => List.mem_append_left _ (h.l0 y hy), fun y hy => ?_, fun k y hk e => ?_, ?_, ?_, ?_⟩
  · rcases List.mem_append.mp hy with hy | hy
    · exact h.al y hy
    · rw [List.mem_singleton.mp hy]; exact ha
  · rcases List.mem_append.mp hy with hy | hy
    · exact (h.a1 y hy).imp id (List.mem_append_left _)
    · exact .inr (List.mem_append_right _ hy)
  · rcases List.mem_append.mp hy with hy | hy
    · exact List.mem_append_left _ (h.sub y hy)
    · exact List.mem_append_right _ hy
  · rcases Nat.lt_succ_iff_lt_or_eq.mp hk with hk | hk
    · exact List.mem_append_left _ (h.mi k y hk e)
    · rw [hk, hx] at e
      cases e
      exact List.mem_append_right _ (List.mem_singleton_self _)
  · rw [List.length_append, List.length_singleton]; omega
  · rw [List.length_append, List.length_singleton]; omega
  · simp only [List.length_append, List.length_singleton]; omega
theorem DW.turn {A L L0 : List Nat} {W W' : List (Nat × Nat)} {here : Nat} {M A' L' : List Nat} (h : DW mv bg th n A L W) (hL : L = L0 ++ [here]) (hn : DN mv bg th n A W here (fromOf mv here) (fromOf mv here).length M W') (ha : DA mv bg th n A L0 M M.length A' L') : DW mv bg th n A' L' W' := by
  have hM : ∀ x ∈ M, x ∈ A' := fun x hx => by
    obtain ⟨k, hk⟩ := List.mem_iff_getElem?.mp hx
    exact ha.mi k x (List.getElem?_eq_some_iff.mp hk).1 hk
  have hl : ∀ x ∈ L, x ∈ L' ∨ x = here := fun x hx => by
    rw [hL] at hx
    rcases List.mem_append.mp hx with hx | hx
    · exact .inl (ha.l0 x hx)
    · exact .inr (List.mem_singleton.mp hx)
  refine ⟨ha.al, ha.sub, fun e he => (hn.w1 e he).2, fun m hm hA' => ?_, fun e he hA' => ?_, fun t ht => ha.a0 _ (h.tc t ht)⟩
  · by_cases hh : m.near = here
    · obtain ⟨k, hk⟩ := List.mem_iff_getElem?.mp hm
      have hmem : k ∈ fromOf mv here := mem_fromK.mpr ⟨(List.getElem?_eq_some_iff.mp hk).1, by rw [hk, Option.map_some, hh]⟩
      obtain ⟨i, hi⟩ := List.mem_iff_getElem?.mp hmem
      exact .inr ((hn.cl i k m (List.getElem?_eq_some_iff.mp hi).1 hi hk).mono hM (fun x hx => hx))
    · rcases ha.a1 _ hA' with hA | hL'
      · rcases h.mc m hm hA with q | q
        · rcases hl _ q with q | q
          · exact .inl q
          · exact absurd q hh
        · exact .inr (q.mono ha.a0 hn.w0)
      · exact .inl hL'
  · obtain ⟨a, _⟩ := hn.w1 e he
    rcases ha.a1 _ hA' with hA | hL'
    · rcases a with a | a
      · rcases h.wc e a hA with q | q
        · exact .inl (ha.a0 _ q)
        · rcases hl _ q with q | q
          · exact .inr q
          · exact .inl (hM _ (hn.wm e a q))
      · exact .inl (hM _ (a hA))
    · exact .inr hL'
theorem DA.start {A L L0 : List Nat} {W : List (Nat × Nat)} {here : Nat} {M : List Nat} (h : DW mv bg th n A L W) (hL : L = L0 ++ [here]) (hlen : A.length ≤ th.length + cnt n A) (hll : L.length ≤ A.length) : DA mv bg th n A L0 M 0 A L0 :=
  ⟨h.al, fun _ h => h, fun _ h => .inl h, fun _ h => h, fun x hx => h.sub x (by rw [hL]; exact List.mem_append_left _ hx), fun k x hk => absurd hk (Nat.not_lt_zero k), Nat.le_refl _, hlen, by rw [hL, List.length_append, List.length_singleton] at hll; omega⟩
end
theorem inV_vN' (x : Nat) (A : List Nat) : inV (vN x) (A.map vN) = decide (x ∈ A) := inV_vN x A
theorem all_flat_vN : ∀ A : List Nat, (A.map vN).all flatV = true
  | [] => rfl
  | _ :: r => by rw [List.map_cons, List.all_cons, all_flat_vN r]; rfl
abbrev intsD (A : List Nat) : List PyData := (A.map Int.ofNat).map PyData.int
theorem dpall_vN (K : PySem.W.Frag) (H : Hp) : ∀ A : List Nat, L2.DpAll K H (A.map vN) (intsD A)
  | [] => .nil
  | x :: r => .cons (.int x) (dpall_vN K H r)
theorem eqvAll_same : ∀ A : List Nat, PyData.eqvAll (intsD A) (intsD A) = true
  | [] => rfl
  | x :: r => by
    show (PyData.eqv (.int (Int.ofNat x)) (.int (Int.ofNat x)) && PyData.eqvAll (intsD r) (intsD r)) = true
    rw [eqvAll_same r]
    show ((Int.ofNat x == Int.ofNat x) && true) = true
    simp
theorem eqv_nil (A : List Nat) : PyData.eqv (.list (intsD A)) (.list []) = decide (A = []) := by
  cases A with
  | nil => rfl
  | cons x r => rfl
/-- l != [] -/
theorem ne_nil {K : PySem.W.Frag} {H : Hp} {Q : VK} {a e : Addr} {A : List Nat} (ha : H a = some (.lst (A.map vN))) (he : H e = some (.lst [])) (h : Q (.bl (!decide (A = []))) H) : rNeD K (.ref a) (.ref e) H Q :=
  ⟨_, _, .lst (SqL.of ha) (dpall_vN K H A), .lst (SqL.of he) .nil, PySem.W.shaped_ints _, PySem.W.shaped_ints [], by rw [eqv_nil]; exact h⟩
theorem eq_ints {K : PySem.W.Frag} {H : Hp} {Q : VK} {a e : Addr} {A : List Nat} (ha : H a = some (.lst (A.map vN))) (he : H e = some (.lst (A.map vN))) (h : Q (.bl true) H) : rEqD K (.ref a) (.ref e) H Q :=
  ⟨_, _, .lst (SqL.of ha) (dpall_vN K H A), .lst (SqL.of he) (dpall_vN K H A), PySem.W.shaped_ints _, PySem.W.shaped_ints _, by
    have z : PyData.eqv (.list (intsD A)) (.list (intsD A)) = true := eqvAll_same A
    rw [z]; exact h⟩
end Dp
namespace Dp
open PySem L2
open C8 (Cal Met Mak pe_c pe_mk pe_mt pe_mt0 pe_gc InsC call_isC)
structure DH (H0 H : Hp) (aa al aw : Addr) (A L : List Nat) (ws : List Addr) (W : List (Nat × Nat)) : Prop where
  s : Same H0 H
  fa : H0 aa = none
  fl : H0 al = none
  fw : H0 aw = none
  n1 : aa ≠ al
  n2 : aa ≠ aw
  n3 : al ≠ aw
  ha : H aa = some (.lst (A.map vN))
  hl : H al = some (.lst (L.map vN))
  hw : H aw = some (.lst (ws.map V.ref))
  pw : Paired (fun (a : Addr) (e : Nat × Nat) => H a = some (.tup [vN e.1, vN e.2])) ws W
theorem map_vN_add (A : List Nat) (x : Nat) : (A ++ [x]).map vN = A.map vN ++ [vN x] := by rw [List.map_append]; rfl
theorem DH.same {H0 H H' : Hp} {aa al aw : Addr} {A L : List Nat} {ws : List Addr} {W : List (Nat × Nat)} (h : DH H0 H aa al aw A L ws W) (e : Same H H') : DH H0 H' aa al aw A L ws W :=
  ⟨fun b o z => e _ _ (h.s _ _ z), h.fa, h.fl, h.fw, h.n1, h.n2, h.n3, e _ _ h.ha, e _ _ h.hl, e _ _ h.hw, paired_mono (fun _ _ z => e _ _ z) h.pw⟩
theorem DH.setA {H0 H : Hp} {aa al aw : Addr} {A L : List Nat} {ws : List Addr} {W : List (Nat × Nat)} (h : DH H0 H aa al aw A L ws W) (A' : List Nat) : DH H0 (upd H aa (.lst (A'.map vN))) aa al aw A' L ws W :=
  ⟨fun b o z => by rw [upd_ne (ne_of_none z h.fa)]; exact h.s _ _ z, h.fa, h.fl, h.fw, h.n1, h.n2, h.n3, upd_same, by rw [upd_ne h.n1.symm]; exact h.hl, by rw [upd_ne h.n2.symm]; exact h.hw, paired_mono (fun _ _ z => tups_lst h.ha _ _ z) h.pw⟩
theorem DH.setL {H0 H : Hp} {aa al aw : Addr} {A L : List Nat} {ws : List Addr} {W : List (Nat × Nat)} (h : DH H0 H aa al aw A L ws W) (L' : List Nat) : DH H0 (upd H al (.lst (L'.map vN))) aa al aw A L' ws W :=
  ⟨fun b o z => by rw [upd_ne (ne_of_none z h.fl)]; exact h.s _ _ z, h.fa, h.fl, h.fw, h.n1, h.n2, h.n3, by rw [upd_ne h.n1]; exact h.ha, upd_same, by rw [upd_ne h.n3.symm]; exact h.hw, paired_mono (fun _ _ z => tups_lst h.hl _ _ z) h.pw⟩
theorem paired_add {α β : Type} {F : α → β → Prop} : ∀ {l : List α} {m : List β} {x : α} {y : β}, Paired F l m → F x y → Paired F (l ++ [x]) (m ++ [y])
  | _, _, _, _, .nil, h => .cons h .nil
  | _, _, _, _, .cons r t, h => .cons r (paired_add t h)
theorem DH.addW {H0 H : Hp} {aa al aw q : Addr} {A L : List Nat} {ws : List Addr} {W : List (Nat × Nat)} (h : DH H0 H aa al aw A L ws W) {e : Nat × Nat} (hq : H q = some (.tup [vN e.1, vN e.2])) :
    DH H0 (upd H aw (.lst ((ws ++ [q]).map V.ref))) aa al aw A L (ws ++ [q]) (W ++ [e]) :=
  ⟨fun b o z => by rw [upd_ne (ne_of_none z h.fw)]; exact h.s _ _ z, h.fa, h.fl, h.fw, h.n1, h.n2, h.n3, by rw [upd_ne h.n2]; exact h.ha, by rw [upd_ne h.n3]; exact h.hl, upd_same, paired_add (paired_mono (fun _ _ z => tups_lst h.hw _ _ z) h.pw) (tups_lst h.hw _ _ hq)⟩
/-- the list of more -/
theorem DH.setM {H0 H : Hp} {aa al aw m : Addr} {A L : List Nat} {ws : List Addr} {W : List (Nat × Nat)} (h : DH H0 H aa al aw A L ws W) {ys : List V} (hm : H m = some (.lst ys)) (f : H0 m = none) (n1 : m ≠ aa) (n2 : m ≠ al) (n3 : m ≠ aw) (zs : List V) : DH H0 (upd H m (.lst zs)) aa al aw A L ws W :=
  ⟨fun b o z => by rw [upd_ne (ne_of_none z f)]; exact h.s _ _ z, h.fa, h.fl, h.fw, h.n1, h.n2, h.n3, by rw [upd_ne n1.symm]; exact h.ha, by rw [upd_ne n2.symm]; exact h.hl, by rw [upd_ne n3.symm]; exact h.hw, paired_mono (fun _ _ z => tups_lst hm _ _ z) h.pw⟩
theorem dec_vN (a b : Nat) : decide (vN a = vN b) = decide (a = b) := by
  by_cases h : a = b
  · rw [h]; simp
  · rw [decide_eq_false h, decide_eq_false (fun e => h (by have := V.int.inj e; omega))]
theorem same_none {H H' : Hp} {p : Addr} (e : Same H H') (h : H' p = none) : H p = none := by
  cases z : H p with
  | none => rfl
  | some o => rw [e _ _ z] at h; cases h
theorem same_trans {H H1 H2 : Hp} (a : Same H H1) (b : Same H1 H2) : Same H H2 := fun c o z => b _ _ (a _ _ z)
section
variable {P : Program} {w : World} {K : PySem.W.Frag} {mg : Str → Option Value} {base : Heap} {kd pw CP CF : Addr} {f : Addr} {fd : FuncData}
def spPlaces (P : Program) (w : World) (CF : Addr) : Sp := fun vs H Q _ => ∃ (x dx am ao ab ae ap af : Addr) (qs : List Addr) (st : LS) (bg : List Nat), vs = [.ref x] ∧ FlowRd P w CF H x dx am ao ab ae ap af qs st bg ∧ Q (vN st.own.length) H
abbrev st_Flow_places : Stmt := inClass (top 39) 1
abbrev N_Flow_places : List Str := ["self"]
theorem sc_Flow_places : FnScope N_Flow_places ["self"] (defScope st_Flow_places) := ⟨rfl, rfl, rfl, by decide +kernel, rfl, by decide +kernel, by decide +kernel⟩
theorem ok_places (F : L2.Fun K "places" "Flow.places" st_Flow_places f fd) (T : Txt K w mg kd pw CP CF) : FnOk P w K mg base CX0 1 f fd ["self"] (spPlaces P w CF) := by
  refine F.ok sc_Flow_places (fun vs H Q E h => ?_) (fun cdv A outer s H vs Q E hr h => ?_)
  · obtain ⟨_, _, _, _, _, _, _, _, _, _, _, rfl, _⟩ := h
    rfl
  obtain ⟨x, dx, am, ao, ab, ae, ap, af, qs, st, bg, rfl, R, q⟩ := h
  refine ⟨_, ((pss_one (ps_ret (pe_callB call_len_seq (by rfl) T.n_len bt_len (pa_cons (pe_fld (pv 0) rfl) pa_nil))))), ?_⟩
  refine ⟨_, rfl, x, CF, dx, _, _, rfl, R.ob, T.isF, T.nF _ (by decide +kernel), f6_procs _ _ _ _ _ _, ao, _, rfl, .inl (SqL.of R.la.own), ?_⟩
  rw [List.length_map]
  exact q
def spDead (P : Program) (w : World) (CP CF : Addr) (d : Nat) : Sp := fun vs H Q _ => ∃ (p x dx am ao ab ae ap af : Addr) (qs : List Addr) (st : LS) (bg : List Nat) (bodies : List (List Stm)) (th : List Nat), vs = [.ref p, .ref x] ∧ ProgAt CP H p d bodies th ∧
  FlowRd P w CF H x dx am ao ab ae ap af qs st bg ∧ LOk bg.length st ∧ (∀ x ∈ bg, x + 1 < st.own.length) ∧ (∀ t ∈ th, t < bg.length) ∧ st.own.length ≤ 160 ∧ st.mv.length ≤ 1000 ∧ th.length ≤ 4 ∧
  ∀ (H' : Hp) (r : Addr) (A : List Nat), Same H H' → H' r = some (.lst (((List.range st.own.length).filter fun y => !decide (y ∈ A)).map vN)) → H r = none → (∀ y, y ∈ A ↔ Al st.mv (fun p => bg.getD p 0) th y) → Q (.ref r) H'
abbrev st_dead_by_flow : Stmt := top 47
abbrev N_dead_by_flow : List Str := ["program", "flow", "alive", "left", "waiting", "here", "more", "number", "near", "kind", "what", "far", "place", "procedure", "end"]
theorem sc_dead_by_flow : FnScope N_dead_by_flow ["program", "flow"] (defScope st_dead_by_flow) := ⟨rfl, rfl, rfl, by decide +kernel, rfl, by decide +kernel, by decide +kernel⟩
theorem ok_dead_by_flow {d k : Nat} {pP gP : Addr} {fdP : FuncData} {psP : List Str} {dsP : List Value} (F : GFun K mg "dead_by_flow" st_dead_by_flow f fd) (T : Txt K w mg kd pw CP CF) (c_threads : Met P w K mg base 1 CP "threads" (spThreads CP d) [])
    (hpP : PropOf K CF "places" pP gP) (okP : FnOk P w K mg base CX0 1 gP fdP psP (spPlaces P w CF)) (bP : Binds K fdP psP []) (hk : 2 ≤ k) : Cal P w K mg base (k + 1) "dead_by_flow" (spDead P w CP CF d) [] := by
  have b : Binds K fd ["program", "flow"] [] := F.fn.binds fun _ _ _ _ _ _ us hl => match us, hl with | [_, _], _ => rfl
  refine cal_of F b (F.fn.ok sc_dead_by_flow (fun vs H Q E h => ?_) (fun cdv A outer s H vs Q E hr h => ?_))
  · obtain ⟨_, _, _, _, _, _, _, _, _, _, _, _, _, _, rfl, _⟩ := h
    rfl
  obtain ⟨p, x, dx, am, ao, ab, ae, ap, af, qs, st, bg, bodies, th, rfl, hP, R, hLO, hbg, hth, h160, hmv, hth4, q⟩ := h
  have hbgw : ∀ {w : Nat}, w < bg.length → bg[w]? = some (bg.getD w 0) := fun {w} hw => by
    rw [List.getElem?_eq_getElem hw]
    simp [List.getD, List.getElem?_eq_getElem hw]
  have hbgn : ∀ {w : Nat}, w < bg.length → bg.getD w 0 + 1 < st.own.length := fun {w} hw => hbg _ (List.mem_of_getElem? (hbgw hw))
  refine ⟨_, ((pss_cons (ps_set (i := 2) sc_dead_by_flow.nd rfl (Or.inr rfl) (pe_lc (own := [("procedure", 13)]) (te := tOp (rIxL K) (tFld K (tVar 1) "own_begins") (tVar 13)) (by rfl) sc_dead_by_flow.nd (pi_list (pe_mt0 c_threads hr (by omega) (pv 0))) (blkOk_by (own := [("procedure", 13)]) (N := N_dead_by_flow) (sc := defScope st_dead_by_flow) (by decide +kernel)) (fun _ _ _ _ _ => (pg_name (i := 13) sc_dead_by_flow.nd rfl (Or.inl rfl))) (fun _ _ _ _ _ => pts_nil) (fun _ _ _ _ _ => (pe_ix ix_list (pe_fld (pv 1) rfl) (pv 13) (fun _ _ => rfl)))))
  (pss_cons (ps_set (i := 3) sc_dead_by_flow.nd rfl (Or.inl rfl) (pe_callTy call_list_of (by rfl) T.n_list bt_list (pa_cons (pv 2) pa_nil)))
  (pss_cons (ps_set (i := 4) sc_dead_by_flow.nd rfl (Or.inl rfl) (pe_lst pa_nil))
  (pss_cons (ps_while PassesOwn.never (pt_cmpR (op_neD hr.units) (pv 3) (pe_lst pa_nil) (nomark _)) (pss_cons (ps_set (i := 5) sc_dead_by_flow.nd rfl (Or.inr rfl) (pe_bm0 PySem.F.plainAttrs_list PySem.F.slot_list_pop PySem.F.type_list_pop mt_pop (pv 3)))
  (pss_cons (ps_setLc (i := 6) (own := [("end", 14), ("place", 12)]) (g := gTup K 2 (gCons (gName 14) (gCons (gName 12) gNil))) (by rfl) sc_dead_by_flow.nd rfl rfl (sw_true rfl rfl rfl (by decide +kernel)) (pi_list (pv 4)) (blkOk_by (own := [("end", 14), ("place", 12)]) (N := N_dead_by_flow) (sc := defScope st_dead_by_flow) (by decide +kernel)) (fun _ _ _ _ _ => (pg_tup rfl (pgs_cons (pg_name (i := 14) sc_dead_by_flow.nd rfl (Or.inl rfl)) (pgs_cons (pg_name (i := 12) sc_dead_by_flow.nd rfl (Or.inl rfl)) pgs_nil)))) (fun _ _ _ _ _ => (pts_one (pt_cmpR op_eq (pv 14) (pv 5) (nomark _)))) (fun _ _ _ _ _ => (pv 12)))
  (pss_cons (ps_for PassesOwn.never rfl (pi_list (pe_ix ix_list (pe_fld (pv 1) rfl) (pv 5) (fun _ _ => rfl))) (pg_name (i := 7) sc_dead_by_flow.nd rfl (Or.inl rfl))
  (pss_cons (ps_asg (pe_ix ix_list (pe_fld (pv 1) rfl) (pv 7) (fun _ _ => rfl)) (pg_tup rfl (pgs_cons (pg_name (i := 8) sc_dead_by_flow.nd rfl (Or.inl rfl)) (pgs_cons (pg_name (i := 9) sc_dead_by_flow.nd rfl (Or.inl rfl)) (pgs_cons (pg_name (i := 10) sc_dead_by_flow.nd rfl (Or.inl rfl)) (pgs_cons (pg_name (i := 11) sc_dead_by_flow.nd rfl (Or.inl rfl)) pgs_nil))))))
  (pss_cons (ps_if (pt_cmpR op_ne (pv 9) pe_str (nomark _)) (pss_cons (ps_expr (pe_bm PySem.F.plainAttrs_list PySem.F.slot_list_append PySem.F.type_list_append mt_append (pv 6) (pa_cons (pv 11) pa_nil)))
  (pss_one ps_continue)) pss_nil)
  (pss_cons (ps_expr (pe_bm PySem.F.plainAttrs_list PySem.F.slot_list_append PySem.F.type_list_append mt_append (pv 6) (pa_cons (pe_ix ix_list (pe_fld (pv 1) rfl) (pv 10) (fun _ _ => rfl)) pa_nil)))
  (pss_cons (ps_if (pt_cmpR op_in_seq (pe_ix ix_list (pe_fld (pv 1) rfl) (pv 10) (fun _ _ => rfl)) (pv 2) (by rfl)) (pss_one (ps_expr (pe_bm PySem.F.plainAttrs_list PySem.F.slot_list_append PySem.F.type_list_append mt_append (pv 6) (pa_cons (pv 11) pa_nil)))) pss_nil)
  (pss_one (ps_expr (pe_bm PySem.F.plainAttrs_list PySem.F.slot_list_append PySem.F.type_list_append mt_append (pv 4) (pa_cons (pe_tup (pa_cons (pe_ix ix_list (pe_fld (pv 1) rfl) (pv 10) (fun _ _ => rfl)) (pa_cons (pv 11) pa_nil))) pa_nil)))))))))
  (pss_one (ps_for PassesOwn.never rfl (pi_list (pv 6)) (pg_name (i := 12) sc_dead_by_flow.nd rfl (Or.inl rfl))
  (pss_one (ps_if (pt_cmpR op_notIn_seq (pv 12) (pv 2) (by rfl)) (pss_cons (ps_expr (pe_bm PySem.F.plainAttrs_list PySem.F.slot_list_append PySem.F.type_list_append mt_append (pv 2) (pa_cons (pv 12) pa_nil)))
  (pss_one (ps_expr (pe_bm PySem.F.plainAttrs_list PySem.F.slot_list_append PySem.F.type_list_append mt_append (pv 3) (pa_cons (pv 12) pa_nil))))) pss_nil))))))))
  (pss_one (ps_ret (pe_lc (own := [("place", 12)]) (tt := tTest (tOp (rIn K true) (tVar 12) (tVar 2))) (by rfl) sc_dead_by_flow.nd (pi_range1 (by rfl) T.n_range (pa_cons (pe_prop (E := C8.E0) (pv 1) T.isF hpP okP (hr.mono (by omega)) bP .nil C8.pass0 (by rfl)) pa_nil)) (blkOk_by (own := [("place", 12)]) (N := N_dead_by_flow) (sc := defScope st_dead_by_flow) (by decide +kernel)) (fun _ _ _ _ _ => (pg_name (i := 12) sc_dead_by_flow.nd rfl (Or.inl rfl))) (fun _ _ _ _ _ => (pts_one (pt_cmpR op_notIn_seq (pv 12) (pv 2) (by rfl)))) (fun _ _ _ _ _ => (pv 12)))))))))), ?_⟩
  -- alive = [flow.own_begins[procedure] for procedure in program.threads()]
  obtain ⟨dxp, tb, tt, psp, Lp, Cp, Mp, z1, z2, z3, z4⟩ := id hP
  refine ⟨_, rfl, p, dxp, _, rfl, z1, progF_m2 _ _ _ _ _, p, bodies, th, rfl, hP, fun r H1 s1 hr1 hrn => ?_⟩
  refine ⟨r, rfl, ⟨_, SqL.of hr1⟩, fun aa haa => ?_⟩
  refine lc_list (K := K) (a := r) (xs := th.map vN) (fun i H2 => Same H1 H2 ∧ H2 aa = some (.lst (((th.take i).map fun t => bg.getD t 0).map vN))) ⟨same_new haa _, upd_same⟩ (fun i H2 _ h2 => SqL.of (h2.1 _ _ hr1)) ?_ ?_
  · rintro i y H2 hi ⟨h1, h2⟩
    obtain ⟨t, ht, rfl⟩ : ∃ t, th[i]? = some t ∧ vN t = y := by
      rw [List.getElem?_map] at hi
      exact Option.map_eq_some_iff.mp hi
    have R2 := R.same (same_trans s1 h1)
    refine ⟨rfl, _, rfl, x, CF, dx, _, _, rfl, R2.ob, T.isF, T.nF _ (by decide +kernel), f6_begins _ _ _ _ _ _, _, rfl, ab, _, t, _, rfl, rfl, SqL.of R2.bgs, atI_nat (v := vN (bg.getD t 0)) (by rw [List.getElem?_map, hbgw (hth t (List.mem_of_getElem? ht))]; rfl), ?_⟩
    have hlt := (List.getElem?_eq_some_iff.mp ht).1
    refine ⟨_, h2, lt_sizeLine (by rw [List.length_map, List.length_map, List.length_take]; omega), fun c o e => ?_, ?_⟩
    · rw [upd_ne (ne_of_none e haa)]
      exact h1 _ _ e
    · rw [upd_same, List.take_add_one, ht, List.map_append, List.map_append]
      rfl
  rintro H2 ⟨s2, ha2⟩
  rw [List.length_map, List.take_length] at ha2
  -- left = list(alive)
  refine ⟨_, rfl, aa, _, rfl, .inl (SqL.of ha2), fun al hal => ?_⟩
  -- waiting = []
  refine ⟨Nat.zero_le _, fun aw haw => ?_⟩
  have s3 := same_new hal (.lst ((th.map fun t => bg.getD t 0).map vN))
  have s4 := same_new haw (.lst [])
  have hA0 : ∀ t ∈ th, bg.getD t 0 < st.own.length := fun t ht => by have := hbgn (hth t ht); omega
  have D0 : DH H (upd (upd H2 al (.lst ((th.map fun t => bg.getD t 0).map vN))) aw (.lst [])) aa al aw (th.map fun t => bg.getD t 0) (th.map fun t => bg.getD t 0) [] [] := by
    have n1 : aa ≠ al := ne_of_none ha2 hal
    have n2 : aa ≠ aw := ne_of_none (s3 _ _ ha2) haw
    have n3 : al ≠ aw := ne_of_none upd_same haw
    exact ⟨same_trans s1 (same_trans s2 (same_trans s3 s4)), same_none s1 haa, same_none (same_trans s1 s2) hal, same_none (same_trans s1 (same_trans s2 s3)) haw, n1, n2, n3, s4 _ _ (s3 _ _ ha2), s4 _ _ upd_same, upd_same, .nil⟩
  have W0 : DW st.mv (fun p => bg.getD p 0) th st.own.length (th.map fun t => bg.getD t 0) (th.map fun t => bg.getD t 0) [] := DW.start hA0
  generalize upd (upd H2 al (.lst ((th.map fun t => bg.getD t 0).map vN))) aw (.lst []) = H4 at D0
  -- while left != []
  refine ⟨fun m σ H5 => ∃ (n5 n6 n7 n8 n9 n10 n11 n12 : Option V) (A L : List Nat) (W : List (Nat × Nat)) (ws : List Addr) (tn : Nat), σ = [some (.ref p), some (.ref x), some (.ref aa), some (.ref al), some (.ref aw), n5, n6, n7, n8, n9, n10, n11, n12, none, none] ∧
    DH H H5 aa al aw A L ws W ∧ DW st.mv (fun p => bg.getD p 0) th st.own.length A L W ∧ A.length ≤ th.length + cnt st.own.length A ∧ tn + L.length ≤ A.length ∧ W.length ≤ 1000 * tn ∧ m = L.length + 2 * (st.own.length - cnt st.own.length A), ⟨_, none, none, none, none, none, none, none, none, _, _, [], [], 0, rfl, D0, W0, ?_, ?_, Nat.le_refl 0, rfl⟩, ?_⟩
  · rw [List.length_map]; omega
  · rw [Nat.zero_add]; exact Nat.le_refl _
  rintro m σ H5 ⟨n5, n6, n7, n8, n9, n10, n11, n12, A, L, W, ws, tn, rfl, D, DWi, hAl, hLl, hWl, rfl⟩
  have hcn := cnt_le st.own.length A
  have hWb : W.length ≤ 164000 := by
    have : tn ≤ 164 := by omega
    have : 1000 * tn ≤ 1000 * 164 := Nat.mul_le_mul_left _ this
    omega
  refine ⟨_, rfl, Nat.zero_le _, fun e he => ?_⟩
  have se := same_new he (.lst [])
  refine ne_nil (D.same se).hl upd_same ⟨_, rfl, ?_⟩
  have De := D.same se
  generalize upd H5 e (.lst []) = H6 at De
  by_cases hL : L = []
  · rw [decide_eq_true hL]
    refine iteF ?_
    -- the answer
    refine ⟨_, rfl, x, dx, _, rfl, (R.same De.s).ob, x, dx, am, ao, ab, ae, ap, af, qs, st, bg, rfl, R.same De.s, _, rfl, by omega, by omega, fun Dd hDd => ?_⟩
    refine lc_range (lo := 0) (n := st.own.length) (fun i H7 => Same H6 H7 ∧ H7 Dd = some (.lst (((List.range i).filter fun y => !decide (y ∈ A)).map vN))) ⟨same_new hDd _, upd_same⟩ ?_ ?_
    · rintro i H7 hi ⟨h1, h2⟩
      refine ⟨rfl, _, rfl, _, rfl, aa, _, rfl, .inl (SqL.of (h1 _ _ De.ha)), rfl, all_flat_vN A, _, rfl, ?_⟩
      have ei : V.int (0 + (i : Int)) = vN i := by rw [Int.zero_add]
      rw [ei, inV_vN']
      have hlen : ((List.range i).filter fun y => !decide (y ∈ A)).length ≤ i := by
        have := List.length_filter_le (fun y => !decide (y ∈ A)) (List.range i)
        rw [List.length_range] at this
        exact this
      by_cases hin : i ∈ A
      · rw [decide_eq_true hin]
        refine iteF ⟨h1, ?_⟩
        rw [List.range_succ, List.filter_append, List.filter_cons, decide_eq_true hin]
        simpa using h2
      · rw [decide_eq_false hin]
        refine iteT ⟨_, rfl, _, h2, lt_sizeLine (by rw [List.length_map]; omega), fun c o z => ?_, ?_⟩
        · rw [upd_ne (ne_of_none z hDd)]
          exact h1 _ _ z
        · rw [upd_same, List.range_succ, List.filter_append, List.filter_cons, decide_eq_false hin]
          simp
    · rintro H7 ⟨h1, h2⟩
      rw [hL] at DWi
      exact q H7 Dd A (same_trans De.s h1) h2 (same_none De.s hDd) DWi.done
  rw [decide_eq_false hL]
  obtain ⟨L0, here, hLe⟩ : ∃ L0 here, L = L0 ++ [here] := ⟨L.dropLast, L.getLast hL, (List.dropLast_concat_getLast hL).symm⟩
  have hhA : here ∈ A := DWi.sub here (by rw [hLe]; exact List.mem_append_right _ (List.mem_singleton_self _))
  have hh := DWi.al here hhA
  have hLlen : L.length = L0.length + 1 := by rw [hLe, List.length_append, List.length_singleton]
  refine iteT ⟨_, fun σ' H' h => h, ?_⟩
  -- here = left.pop()
  refine ⟨_, rfl, .inl ⟨rfl, _, SqL.of De.hl⟩, al, _, vN here, rfl, rfl, De.hl, ?_, ?_⟩
  · rw [List.length_map, hLe, List.map_append, List.length_append, List.length_singleton]
    simp
  have e0 : (L.map vN).dropLast = L0.map vN := by rw [hLe, List.map_append]; exact List.dropLast_concat ..
  rw [e0]
  have D7 := De.setL L0
  generalize upd H6 al (.lst (L0.map vN)) = H7 at D7
  -- more = [place for end, place in waiting if end == here]
  refine ⟨_, rfl, aw, rfl, ⟨_, SqL.of D7.hw⟩, fun m hm => ?_⟩
  refine lc_list (K := K) (a := aw) (xs := ws.map V.ref) (fun i H8 => Same H7 H8 ∧ H8 m = some (.lst ((((W.take i).filter fun e => decide (e.1 = here)).map (·.2)).map vN))) ⟨same_new hm _, upd_same⟩ (fun i H8 _ h8 => SqL.of (h8.1 _ _ D7.hw)) ?_ ?_
  · rintro i y H8 hi ⟨h1, h2⟩
    obtain ⟨ew, hew, rfl⟩ : ∃ ew, ws[i]? = some ew ∧ V.ref ew = y := by
      rw [List.getElem?_map] at hi
      exact Option.map_eq_some_iff.mp hi
    obtain ⟨e, he, htu⟩ := paired_at D7.pw hew
    have hiW : i < W.length := (List.getElem?_eq_some_iff.mp he).1
    have hlen : ((W.take i).filter fun e => decide (e.1 = here)).length ≤ i := by
      have h1 := List.length_filter_le (fun e : Nat × Nat => decide (e.1 = here)) (W.take i)
      have h2 : (W.take i).length ≤ i := by rw [List.length_take]; omega
      omega
    refine ⟨ew, _, rfl, SqT.of (h1 _ _ htu), rfl, _, _, rfl, _, _, rfl, rfl, rfl, _, rfl, _, rfl, rfl, _, rfl, ?_⟩
    rw [dec_vN]
    by_cases hin : e.1 = here
    · rw [decide_eq_true hin]
      refine iteT ⟨_, rfl, _, h2, lt_sizeLine (by rw [List.length_map, List.length_map]; omega), fun c o z => ?_, ?_⟩
      · rw [upd_ne (ne_of_none z hm)]
        exact h1 _ _ z
      · rw [upd_same, List.take_add_one, he, List.filter_append, List.map_append, List.map_append]
        simp [hin]
    · rw [decide_eq_false hin]
      refine iteF ⟨h1, ?_⟩
      rw [List.take_add_one, he, List.filter_append]
      simpa [hin] using h2
  rintro H8 ⟨s8, hm8⟩
  rw [List.length_map, paired_len D7.pw, List.take_length] at hm8
  have D8 := D7.same s8
  have fm : H m = none := same_none D7.s hm
  have m1 : m ≠ aa := (ne_of_none D7.ha hm).symm
  have m2 : m ≠ al := (ne_of_none D7.hl hm).symm
  have m3 : m ≠ aw := (ne_of_none D7.hw hm).symm
  have N0 : DN st.mv (fun p => bg.getD p 0) th st.own.length A W here (fromOf st.mv here) 0 ((W.filter fun e => decide (e.1 = here)).map (·.2)) W := DN.start DWi hhA
  have hM0 : ((W.filter fun e => decide (e.1 = here)).map (·.2)).length ≤ W.length + 2 * 0 := by
    rw [List.length_map]
    exact List.length_filter_le _ _
  generalize ((W.filter fun e => decide (e.1 = here)).map (·.2)) = M0 at hm8 N0 hM0
  -- for number in flow.own_from[here]
  have R8 := R.same D8.s
  have hq : here < qs.length := by rw [R8.ql]; exact hh.2
  have hqe : qs[here]? = some qs[here] := List.getElem?_eq_getElem hq
  have hfr := R8.frs _ _ hqe
  have hfl : (fromOf st.mv here).length ≤ 1000 := by
    have := List.length_filter_le (fun j => decide ((st.mv[j]?).map Mv.near = some here)) (List.range st.mv.length)
    rw [List.length_range] at this
    exact Nat.le_trans this hmv
  have fH : ∀ {Hq : Hp}, Same H Hq → Hq (qs[here]) = some (.lst ((fromOf st.mv here).map vN)) := fun e => e _ _ (R.frs _ _ hqe)
  refine ⟨_, rfl, x, CF, dx, _, _, rfl, R8.ob, T.isF, T.nF _ (by decide +kernel), f6_from _ _ _ _ _ _, _, rfl, af, _, here, _, rfl, rfl, SqL.of R8.fr, atI_nat (v := .ref qs[here]) (by rw [List.getElem?_map, hqe]; rfl), qs[here], rfl, ⟨_, SqL.of hfr⟩, ?_⟩
  refine for_it (L2.walk_list (K := K) (a := qs[here]) (xs := (fromOf st.mv here).map vN)) (fun j σ H9 => ∃ (n7 n8 n9 n10 n11 : Option V) (M : List Nat) (W' : List (Nat × Nat)) (ws' : List Addr), σ = [some (.ref p), some (.ref x), some (.ref aa), some (.ref al), some (.ref aw), some (vN here), some (.ref m), n7, n8, n9, n10, n11, n12, none, none] ∧
    DH H H9 aa al aw A L0 ws' W' ∧ H9 m = some (.lst (M.map vN)) ∧ DN st.mv (fun p => bg.getD p 0) th st.own.length A W here (fromOf st.mv here) j M W' ∧ W'.length ≤ W.length + j ∧ M.length ≤ W.length + 2 * j) ⟨n7, n8, n9, n10, n11, M0, W, ws, rfl, D8, hm8, N0, Nat.le_refl _, hM0⟩ ?_ ?_ ?_
  · rintro j σ H9 _ ⟨_, _, _, _, _, _, _, _, rfl, D9, _⟩
    exact SqL.of (fH D9.s)
  · rintro j y σ H9 H9' hj ⟨n7, n8, n9, n10, n11, M, W', ws', rfl, D9, hm9, N9, hW9, hM9⟩ ⟨rfl, hy⟩
    rw [List.length_map] at hj
    obtain ⟨k, hk, rfl⟩ : ∃ k, (fromOf st.mv here)[j]? = some k ∧ vN k = y := by
      rw [List.getElem?_map] at hy
      exact Option.map_eq_some_iff.mp hy
    obtain ⟨hkl, hnear⟩ := mem_fromK.mp (List.mem_of_getElem? hk)
    have R9 := R.same D9.s
    obtain ⟨rs, r1, r2⟩ := R9.la.mv
    have hrs : k < rs.length := by rw [paired_len r2]; exact hkl
    have hrk : rs[k]? = some rs[k] := List.getElem?_eq_getElem hrs
    obtain ⟨mv0, hmv0, htup⟩ := paired_at r2 hrk
    obtain ⟨mn, mkd, mw, mf⟩ := mv0
    have hmn : mn = here := by
      rw [hmv0] at hnear
      exact Option.some.inj hnear
    subst hmn
    have hok := hLO _ (List.mem_of_getElem? hmv0)
    refine ⟨_, rfl, x, CF, dx, _, _, rfl, R9.ob, T.isF, T.nF _ (by decide +kernel), f6_moves _ _ _ _ _ _, _, rfl, am, _, k, _, rfl, rfl, SqL.of r1, atI_nat (v := .ref rs[k]) (by rw [List.getElem?_map, hrk]; rfl), rs[k], _, rfl, SqT.of htup, rfl, _, _, rfl, _, _, rfl, _, _, rfl, _, _, rfl, rfl, ?_⟩
    refine ⟨_, rfl, rfl, _, rfl, ?_⟩
    have edec : decide (V.str mkd = V.str "call") = decide (mkd = "call") := by
      by_cases z : mkd = "call"
      · rw [z]; simp
      · rw [decide_eq_false z, decide_eq_false (fun e => z (V.str.inj e))]
    rw [edec]
    by_cases hc : mkd = "call"
    · rw [decide_eq_true hc]
      refine iteF ?_
      obtain ⟨w, hw, hwP⟩ := hok.call hc
      subst hw
      have hM6 : M.length + 5 ≤ 1000000 := by omega
      -- more.append(flow.own_begins[what])
      refine ⟨_, rfl, .inl ⟨rfl, _, SqL.of hm9⟩, _, rfl, x, CF, dx, _, _, rfl, R9.ob, T.isF, T.nF _ (by decide +kernel), f6_begins _ _ _ _ _ _, _, rfl, ab, _, w, _, rfl, rfl, SqL.of R9.bgs, atI_nat (v := vN (bg.getD w 0)) (by rw [List.getElem?_map, hbgw hwP]; rfl), m, _, _, rfl, rfl, hm9, lt_sizeLine (by rw [List.length_map]; omega), ?_⟩
      have D10 := D9.setM hm9 fm m1 m2 m3 ((M ++ [bg.getD w 0]).map vN)
      have hm10 : (upd H9' m (.lst ((M ++ [bg.getD w 0]).map vN))) m = some (.lst ((M ++ [bg.getD w 0]).map vN)) := upd_same
      rw [← map_vN_add]
      generalize upd H9' m (.lst ((M ++ [bg.getD w 0]).map vN)) = H10 at D10 hm10
      have fin : ∀ (H11 : Hp) (M' : List Nat), DH H H11 aa al aw A L0 ws' W' → H11 m = some (.lst (M'.map vN)) → (M' = if decide (bg.getD w 0 + 1 ∈ A) = true then (M ++ [bg.getD w 0]) ++ [mf] else M ++ [bg.getD w 0]) → M'.length ≤ M.length + 2 → ∀ q : Addr, H11 q = none →
          (∃ (n7 n8 n9 n10 n11 : Option V) (M2 : List Nat) (W2 : List (Nat × Nat)) (ws2 : List Addr), [some (V.ref p), some (.ref x), some (.ref aa), some (.ref al), some (.ref aw), some (vN mn), some (.ref m), some (vN k), some (vN mn), some (.str mkd), some (vN w), some (vN mf), n12, none, none] = [some (V.ref p), some (.ref x), some (.ref aa), some (.ref al), some (.ref aw), some (vN mn), some (.ref m), n7, n8, n9, n10, n11, n12, none, none] ∧
            DH H (upd (upd H11 q (.tup [vN (bg.getD w 0 + 1), vN mf])) aw (.lst (ws'.map V.ref ++ [.ref q]))) aa al aw A L0 ws2 W2 ∧ (upd (upd H11 q (.tup [vN (bg.getD w 0 + 1), vN mf])) aw (.lst (ws'.map V.ref ++ [.ref q]))) m = some (.lst (M2.map vN)) ∧ DN st.mv (fun p => bg.getD p 0) th st.own.length A W mn (fromOf st.mv mn) (j + 1) M2 W2 ∧ W2.length ≤ W.length + (j + 1) ∧ M2.length ≤ W.length + 2 * (j + 1)) := fun H11 M' D11 hm11 hM' hl' q hq => by
        have sq := same_new hq (.tup [vN (bg.getD w 0 + 1), vN mf])
        have D12 := (D11.same sq).addW (q := q) (e := (bg.getD w 0 + 1, mf)) upd_same
        have ew : (ws' ++ [q]).map V.ref = ws'.map V.ref ++ [.ref q] := by rw [List.map_append]; rfl
        rw [ew] at D12
        have hb : bg.getD w 0 < st.own.length := by have := hbgn hwP; omega
        refine ⟨_, _, _, _, _, M', W' ++ [(bg.getD w 0 + 1, mf)], ws' ++ [q], rfl, D12, ?_, N9.call hk hmv0 hc rfl hh.1 hok.far hb (fun y hy => (DWi.al y hy).1) hM', ?_, by omega⟩
        · rw [upd_ne m3]
          exact sq _ _ hm11
        · rw [List.length_append, List.length_singleton]; omega
      -- if flow.own_ends[what] in alive
      have R10 := R.same D10.s
      have hen : ((bg.map (· + 1)).map vN)[w]? = some (vN (bg.getD w 0 + 1)) := by rw [List.getElem?_map, List.getElem?_map, hbgw hwP]; rfl
      refine ⟨_, rfl, x, CF, dx, _, _, rfl, R10.ob, T.isF, T.nF _ (by decide +kernel), f6_ends _ _ _ _ _ _, _, rfl, ae, _, w, _, rfl, rfl, SqL.of R10.ens, atI_nat hen, _, rfl, aa, _, rfl, .inl (SqL.of D10.ha), rfl, all_flat_vN A, _, rfl, ?_⟩
      rw [inV_vN']
      have tail : ∀ (H11 : Hp) (M' : List Nat), DH H H11 aa al aw A L0 ws' W' → H11 m = some (.lst (M'.map vN)) → (M' = if decide (bg.getD w 0 + 1 ∈ A) = true then (M ++ [bg.getD w 0]) ++ [mf] else M ++ [bg.getD w 0]) → M'.length ≤ M.length + 2 → True := fun _ _ _ _ _ _ => trivial
      by_cases hin : bg.getD w 0 + 1 ∈ A
      · rw [decide_eq_true hin]
        refine iteT ?_
        refine ⟨_, rfl, .inl ⟨rfl, _, SqL.of hm10⟩, _, rfl, m, _, _, rfl, rfl, hm10, lt_sizeLine (by rw [List.length_map, List.length_append, List.length_singleton]; omega), ?_⟩
        have D11 := D10.setM hm10 fm m1 m2 m3 (((M ++ [bg.getD w 0]) ++ [mf]).map vN)
        have hm11 : (upd H10 m (.lst (((M ++ [bg.getD w 0]) ++ [mf]).map vN))) m = some (.lst (((M ++ [bg.getD w 0]) ++ [mf]).map vN)) := upd_same
        rw [← map_vN_add]
        generalize upd H10 m (.lst (((M ++ [bg.getD w 0]) ++ [mf]).map vN)) = H11 at D11 hm11
        have R11 := R.same D11.s
        refine ⟨_, rfl, .inl ⟨rfl, _, SqL.of D11.hw⟩, _, rfl, x, CF, dx, _, _, rfl, R11.ob, T.isF, T.nF _ (by decide +kernel), f6_ends _ _ _ _ _ _, _, rfl, ae, _, w, _, rfl, rfl, SqL.of R11.ens, atI_nat hen, _, rfl, by show 2 ≤ sizeLine; decide, fun q hq => ?_⟩
        refine ⟨aw, _, _, rfl, rfl, (same_new hq _) _ _ D11.hw, lt_sizeLine (by rw [List.length_map, paired_len D11.pw]; omega), ?_⟩
        exact fin H11 _ D11 hm11 (by rw [if_pos (decide_eq_true hin)]) (by simp) q hq
      · rw [decide_eq_false hin]
        refine iteF ?_
        refine ⟨_, rfl, .inl ⟨rfl, _, SqL.of D10.hw⟩, _, rfl, x, CF, dx, _, _, rfl, R10.ob, T.isF, T.nF _ (by decide +kernel), f6_ends _ _ _ _ _ _, _, rfl, ae, _, w, _, rfl, rfl, SqL.of R10.ens, atI_nat hen, _, rfl, by show 2 ≤ sizeLine; decide, fun q hq => ?_⟩
        refine ⟨aw, _, _, rfl, rfl, (same_new hq _) _ _ D10.hw, lt_sizeLine (by rw [List.length_map, paired_len D10.pw]; omega), ?_⟩
        exact fin H10 _ D10 hm10 (by rw [if_neg (by rw [decide_eq_false hin]; exact Bool.false_ne_true)]) (by simp) q hq
    · rw [decide_eq_false hc]
      refine iteT ?_
      refine ⟨_, rfl, .inl ⟨rfl, _, SqL.of hm9⟩, _, rfl, m, _, _, rfl, rfl, hm9, lt_sizeLine (by rw [List.length_map]; omega), ?_⟩
      refine ⟨_, _, _, _, _, M ++ [mf], W', ws', rfl, D9.setM hm9 fm m1 m2 m3 _, ?_, N9.plain hk hmv0 hc hh.1 hok.far, by omega, ?_⟩
      · rw [upd_same, map_vN_add]
      · rw [List.length_append, List.length_singleton]; omega
  · rintro σ H9 ⟨n7, n8, n9, n10, n11, M, W', ws', rfl, D9, hm9, N9, hW9, hM9⟩
    rw [List.length_map] at N9 hW9 hM9
    -- for place in more
    refine ⟨_, rfl, m, rfl, ⟨_, SqL.of hm9⟩, ?_⟩
    refine for_it (L2.walk_list (K := K) (a := m) (xs := M.map vN)) (fun i σ H10 => ∃ (n12 : Option V) (A' L' : List Nat), σ = [some (.ref p), some (.ref x), some (.ref aa), some (.ref al), some (.ref aw), some (vN here), some (.ref m), n7, n8, n9, n10, n11, n12, none, none] ∧
      DH H H10 aa al aw A' L' ws' W' ∧ H10 m = some (.lst (M.map vN)) ∧ DA st.mv (fun p => bg.getD p 0) th st.own.length A L0 M i A' L' ∧ tn + 1 + L'.length ≤ A'.length) ⟨n12, A, L0, rfl, D9, hm9, DA.start DWi hLe hAl (by omega), by omega⟩ ?_ ?_ ?_
    · rintro i σ H10 _ ⟨_, _, _, rfl, _, h, _⟩
      exact SqL.of h
    · rintro i y σ H10 H10' hi ⟨n12, A', L', rfl, D10, hm10, DA10, ht10⟩ ⟨rfl, hy⟩
      obtain ⟨pl, hpl, rfl⟩ : ∃ pl, M[i]? = some pl ∧ vN pl = y := by
        rw [List.getElem?_map] at hy
        exact Option.map_eq_some_iff.mp hy
      refine ⟨_, rfl, _, rfl, aa, _, rfl, .inl (SqL.of D10.ha), rfl, all_flat_vN A', _, rfl, ?_⟩
      rw [inV_vN']
      have hcn' := cnt_le st.own.length A'
      have hA'l := DA10.len
      by_cases hin : pl ∈ A'
      · rw [decide_eq_true hin]
        exact iteF ⟨_, A', L', rfl, D10, hm10, DA10.skip hpl hin, ht10⟩
      · rw [decide_eq_false hin]
        refine iteT ?_
        have DA11 := DA10.add hpl hin (N9.ms pl (List.mem_of_getElem? hpl))
        refine ⟨_, rfl, .inl ⟨rfl, _, SqL.of D10.ha⟩, _, rfl, aa, _, _, rfl, rfl, D10.ha, lt_sizeLine (by rw [List.length_map]; omega), ?_⟩
        have D11 := D10.setA (A' ++ [pl])
        have hm11 : (upd H10' aa (.lst ((A' ++ [pl]).map vN))) m = some (.lst (M.map vN)) := by rw [upd_ne m1]; exact hm10
        rw [map_vN_add] at D11 hm11
        generalize upd H10' aa (.lst (A'.map vN ++ [vN pl])) = H11 at D11 hm11
        refine ⟨_, rfl, .inl ⟨rfl, _, SqL.of D11.hl⟩, _, rfl, al, _, _, rfl, rfl, D11.hl, lt_sizeLine (by rw [List.length_map]; omega), ?_⟩
        have D12 := D11.setL (L' ++ [pl])
        rw [map_vN_add] at D12
        exact ⟨_, A' ++ [pl], L' ++ [pl], rfl, D12, by rw [upd_ne m2]; exact hm11, DA11, by rw [List.length_append, List.length_append, List.length_singleton]; omega⟩
    · rintro σ H10 ⟨n12, A', L', rfl, D10, hm10, DA10, ht10⟩
      rw [List.length_map] at DA10
      have hmu := DA10.mu
      have : W'.length ≤ 1000 * (tn + 1) := by omega
      exact ⟨_, by omega, _, _, _, _, _, _, _, _, A', L', W', ws', tn + 1, rfl, D10, DWi.turn hLe N9 DA10, DA10.len, ht10, this, rfl⟩
end
end Dp
namespace Dp
open PySem L2
open C8 (Cal Met Mak pe_c pe_mk pe_mt pe_mt0 pe_gc InsC call_isC)
/-! ### the bounds -/
def LS.ow (st : LS) : Nat := st.own.length
theorem ow_next (s : LS) (pr : Nat) (l : Prop) : (s.next pr l).ow = s.ow + 1 := by simp [LS.ow, LS.next]
theorem ow_move (s : LS) (m : Mv) : (s.move m).ow = s.ow := rfl
theorem ow_path (s : LS) (k : Nat × List Nat) (v : Nat) : (s.path k v).ow = s.ow := rfl
theorem layList_ow {f : Prop → Stm → List Nat → Nat → Nat → LS → LS} {g : Stm → Nat} {can : Stm → Bool} {pr far : Nat} {path : List Nat} (hf : ∀ r s p a b st, (f r s p a b st).ow + 1 ≤ st.ow + 3 * g s ) :
    ∀ (l : List Stm) (r : Prop) (i near : Nat) (st : LS), (layList f can pr far path r l i near st).ow ≤ st.ow + 3 * szL g l
  | [], _, _, _, st => Nat.le_refl _
  | [s], r, i, near, st => by
    have h := hf r s (path ++ [i]) near far (st.path (pr, path ++ [i]) near)
    rw [ow_path] at h
    show (f r s (path ++ [i]) near far (st.path (pr, path ++ [i]) near)).ow ≤ st.ow + 3 * (g s + 0)
    omega
  | s :: t :: l, r, i, near, st => by
    have h := hf r s (path ++ [i]) near st.own.length ((st.next pr (r ∧ can s = true)).path (pr, path ++ [i]) near)
    have h2 := layList_ow (can := can) (pr := pr) (far := far) (path := path) hf (t :: l) (r ∧ can s = true) (i + 1) st.own.length (f r s (path ++ [i]) near st.own.length ((st.next pr (r ∧ can s = true)).path (pr, path ++ [i]) near))
    rw [ow_path, ow_next] at h
    show (layList f can pr far path (r ∧ can s = true) (t :: l) (i + 1) st.own.length (f r s (path ++ [i]) near st.own.length ((st.next pr (r ∧ can s = true)).path (pr, path ++ [i]) near))).ow ≤ st.ow + 3 * (g s + szL g (t :: l))
    omega
theorem layBody_ow {f : Prop → Stm → List Nat → Nat → Nat → LS → LS} {g : Stm → Nat} {can : Stm → Bool} {pr near far : Nat} {path : List Nat} {r : Prop} (hf : ∀ r s p a b st, (f r s p a b st).ow + 1 ≤ st.ow + 3 * g s) (b : List Stm) (st : LS) :
    (layBody f can pr path near far r b st).ow ≤ st.ow + 3 * szL g b := by
  unfold layBody
  by_cases e : b = []
  · subst e
    rw [if_pos rfl]
    show (st.move _).ow ≤ _
    rw [ow_move]
    omega
  · rw [if_neg e]
    have h := layList_ow (can := can) (pr := pr) (far := far) (path := path) hf b r 0 near st
    omega
theorem layS_ow {E : List Nat} {pr : Nat} : ∀ (d : Nat) (r : Prop) (s : Stm) (p : List Nat) (a b : Nat) (st : LS), (layS E pr d r s p a b st).ow + 1 ≤ st.ow + 3 * szS d s
  | 0, _, _, _, _, _, st => by show st.ow + 1 ≤ st.ow + 3 * 1; omega
  | d + 1, r, s, p, a, b, st => by
    have hf := layS_ow (E := E) (pr := pr) d
    cases s with
    | skip =>
      show (st.move _).ow + 1 ≤ st.ow + 3 * 1
      rw [ow_move]
      omega
    | plain w n =>
      show (st.move _).ow + 1 ≤ st.ow + 3 * 1
      rw [ow_move]
      omega
    | hold k body =>
      have h := layBody_ow (can := canS E d) (pr := pr) (near := st.own.length) (far := st.own.length + 1) (path := p ++ [0]) (r := r) hf body (((st.next pr r).move ⟨a, "take", vN k, st.own.length⟩).next pr (r ∧ canB E d body = true))
      rw [ow_next, ow_move, ow_next] at h
      show (LS.move _ _).ow + 1 ≤ st.ow + 3 * (1 + szL (szS d) body)
      rw [ow_move]
      omega
    | either x y =>
      have h := layBody_ow (can := canS E d) (pr := pr) (near := st.own.length) (far := b) (path := p ++ [0]) (r := r) hf x ((st.next pr r).move ⟨a, "step", .non, st.own.length⟩)
      rw [ow_move, ow_next] at h
      have h2 := fun st1 : LS => layBody_ow (can := canS E d) (pr := pr) (near := st1.own.length) (far := b) (path := p ++ [1]) (r := r) hf y ((st1.next pr r).move ⟨a, "step", .non, st1.own.length⟩)
      simp only [ow_move, ow_next] at h2
      show (layBody _ _ _ _ _ _ _ _ _).ow + 1 ≤ st.ow + 3 * (1 + (szL (szS d) x + szL (szS d) y))
      have h3 := h2 (layBody (layS E pr d) (canS E d) pr (p ++ [0]) st.own.length b r x ((st.next pr r).move ⟨a, "step", .non, st.own.length⟩))
      omega
    | when m x y =>
      have h := layBody_ow (can := canS E d) (pr := pr) (near := st.own.length) (far := b) (path := p ++ [0]) (r := r) hf x ((st.next pr r).move ⟨a, "is", vN m, st.own.length⟩)
      rw [ow_move, ow_next] at h
      have h2 := fun st1 : LS => layBody_ow (can := canS E d) (pr := pr) (near := st1.own.length) (far := b) (path := p ++ [1]) (r := r) hf y ((st1.next pr r).move ⟨a, "not", vN m, st1.own.length⟩)
      simp only [ow_move, ow_next] at h2
      show (layBody _ _ _ _ _ _ _ _ _).ow + 1 ≤ st.ow + 3 * (1 + (szL (szS d) x + szL (szS d) y))
      have h3 := h2 (layBody (layS E pr d) (canS E d) pr (p ++ [0]) st.own.length b r x ((st.next pr r).move ⟨a, "is", vN m, st.own.length⟩))
      omega
    | loop body =>
      have h := layBody_ow (can := canS E d) (pr := pr) (near := st.own.length) (far := st.own.length) (path := p ++ [0]) (r := r) hf body ((st.next pr r).move ⟨a, "step", .non, st.own.length⟩)
      rw [ow_move, ow_next] at h
      show (LS.move _ _).ow + 1 ≤ st.ow + 3 * (1 + szL (szS d) body)
      rw [ow_move]
      omega


section
variable {E : List Nat} {R : Nat → Prop} {d : Nat}
theorem layOne_ow {b : List Stm} {p : Nat} {st : LS} : (layOne E R d b p st).own.length ≤ st.own.length + 2 + 3 * szB d b := by
  unfold layOne
  have h := layBody_ow (can := canS E d) (pr := p) (near := st.own.length) (far := st.own.length + 1) (path := []) (r := R p) (layS_ow (E := E) (pr := p) d) b ((st.next p (R p)).next p (R p ∧ canB E d b = true))
  rw [ow_next, ow_next] at h
  show (layBody _ _ _ _ _ _ _ _ _).ow ≤ st.ow + 2 + 3 * szL (szS d) b
  omega
theorem layProcs_ow : ∀ (l : List (List Stm)) (p : Nat) (st : LS), (∀ b ∈ l, szB d b ≤ 7) → (layProcs E R d l p st).own.length ≤ st.own.length + 23 * l.length
  | [], _, st, _ => by show st.own.length ≤ _; omega
  | b :: l, p, st, h => by
    have h1 := layOne_ow (E := E) (R := R) (d := d) (b := b) (p := p) (st := st)
    have h2 := layProcs_ow l (p + 1) (layOne E R d b p st) fun b hb => h b (List.mem_cons_of_mem _ hb)
    have h3 := h b (List.mem_cons_self ..)
    show (layProcs E R d l (p + 1) (layOne E R d b p st)).own.length ≤ st.own.length + 23 * (l.length + 1)
    omega
theorem layProcs_wt : ∀ (l : List (List Stm)) (p : Nat) (st : LS), (∀ b ∈ l, szB d b ≤ 7) → (layProcs E R d l p st).wt ≤ st.wt + 66 * l.length
  | [], _, st, _ => by show st.wt ≤ _; omega
  | b :: l, p, st, h => by
    have h1 := layOne_wt (E := E) (R := R) (d := d) (b := b) (p := p) (st := st)
    have h2 := layProcs_wt l (p + 1) (layOne E R d b p st) fun b hb => h b (List.mem_cons_of_mem _ hb)
    have h3 := h b (List.mem_cons_self ..)
    show (layProcs E R d l (p + 1) (layOne E R d b p st)).wt ≤ st.wt + 66 * (l.length + 1)
    omega
theorem begins_lt : ∀ (l : List (List Stm)) (p : Nat) (st : LS), ∀ x ∈ begins E R d l p st, x + 1 < (layProcs E R d l p st).own.length
  | [], _, _, _, hx => nomatch hx
  | b :: l, p, st, x, hx => by
    have hx' : x = st.own.length ∨ x ∈ begins E R d l (p + 1) (layOne E R d b p st) := by
      have z : x ∈ st.own.length :: begins E R d l (p + 1) (layOne E R d b p st) := hx
      exact List.mem_cons.mp z
    show x + 1 < (layProcs E R d l (p + 1) (layOne E R d b p st)).own.length
    rcases hx' with rfl | hx'
    · have g1 := own_le (layProcs_grow (E := E) (R := R) (d := d) l (p + 1) (layOne E R d b p st))
      have g2 : Grow ((st.next p (R p)).next p (R p ∧ canB E d b = true)) (layOne E R d b p st) := layB_grow
      have g3 := own_le g2
      have e1 : ((st.next p (R p)).next p (R p ∧ canB E d b = true)).own.length = st.own.length + 2 := by rw [own_next, own_next]
      omega
    · exact begins_lt l (p + 1) (layOne E R d b p st) x hx'
end
section
variable {P : Program} {w : World} {K : PySem.W.Frag} {mg : Str → Option Value} {base : Heap} {kd pw CP CF : Addr} {f : Addr} {fd : FuncData}
def spFlowOf (P : Program) (w : World) (CP CF : Addr) (d : Nat) : Sp := fun vs H Q _ => ∃ (E : List Nat) (R : Nat → Prop) (p : Addr) (sh : Sh) (bodies : List (List Stm)) (th : List Nat), vs = [.ref p] ∧ ProgAt CP H p d bodies th ∧
  bodies.length ≤ 6 ∧ (∀ b ∈ bodies, okB sh d b ∧ szB d b ≤ 7) ∧ d ≤ 100 ∧
  ∀ H' x dx am ao ab ae ap af qs, Same H H' → FlowRd P w CF H' x dx am ao ab ae ap af qs (layProcs E R d bodies 0 LS.nil) (begins E R d bodies 0 LS.nil) → Q (.ref x) H'
abbrev st_flow_of : Stmt := top 45
abbrev N_flow_of : List Str := ["program"]
theorem sc_flow_of : FnScope N_flow_of ["program"] (defScope st_flow_of) := ⟨rfl, rfl, rfl, by decide +kernel, rfl, by decide +kernel, by decide +kernel⟩
theorem ok_flow_of {d k : Nat} (F : GFun K mg "flow_of" st_flow_of f fd) (c_Flow : Mak P w K mg base (k + 1) "Flow" CF (spFlowInit P w CP CF d) []) : Cal P w K mg base (k + 3) "flow_of" (spFlowOf P w CP CF d) [] := by
  have b : Binds K fd ["program"] [] := F.fn.binds fun _ _ _ _ _ _ us hl => match us, hl with | [_], _ => rfl
  refine cal_of F b (F.fn.ok sc_flow_of (fun vs H Q E h => ?_) (fun cdv A outer s H vs Q E hr h => ?_))
  · obtain ⟨_, _, _, _, _, _, rfl, _⟩ := h
    rfl
  obtain ⟨En, R, p, sh, bodies, th, rfl, hP, h6, hok, hd, q⟩ := h
  refine ⟨_, ((pss_one (ps_ret (pe_mk c_Flow hr (by omega) (by rfl) (pa_cons (pv 0) pa_nil))))), ?_⟩
  refine ⟨_, rfl, fun x dx hx hdx hne => ?_⟩
  have s1 : Same H (upd (upd H dx (.own x)) x (.ins CF dx [])) := fun b o e => by
    rw [upd_ne (ne_of_none e hx), upd_ne (ne_of_none e hdx)]
    exact e
  refine ⟨En, R, x, dx, p, sh, bodies, th, rfl, upd_same, hP.keep s1, h6, fun b hb => ⟨(hok b hb).1, by have := (hok b hb).2; omega⟩, hd, ?_, fun H' am ao ab ae ap af qs hk R' => ⟨rfl, ?_⟩⟩
  · have := layProcs_ow (E := En) (R := R) (d := d) bodies 0 LS.nil fun b hb => (hok b hb).2
    have e : LS.nil.own.length = 0 := rfl
    omega
  · exact q H' x dx am ao ab ae ap af qs (fun b o e => hk b o (s1 _ _ e) (ne_of_none e hx)) R'
def spDeadPlaces (P : Program) (w : World) (CP CF : Addr) (d : Nat) : Sp := fun vs H Q _ => ∃ (p : Addr) (sh : Sh) (bodies : List (List Stm)) (th : List Nat), vs = [.ref p] ∧ ProgAt CP H p d bodies th ∧
  bodies.length ≤ 6 ∧ sh.P = bodies.length ∧ (∀ b ∈ bodies, okB sh d b ∧ szB d b ≤ 7) ∧ d ≤ 100 ∧ th.length ≤ 4 ∧ (∀ t ∈ th, t < bodies.length) ∧
  ∀ (H' : Hp) (r : Addr) (A : List Nat), Same H H' → H' r = some (.lst (((List.range (FF d bodies th).own.length).filter fun y => !decide (y ∈ A)).map vN)) → H r = none → (∀ y, y ∈ A ↔ AL d bodies th y) → Q (.ref r) H'
abbrev st_dead_places : Stmt := top 48
abbrev N_dead_places : List Str := ["program", "told"]
theorem sc_dead_places : FnScope N_dead_places ["program"] (defScope st_dead_places) := ⟨rfl, rfl, rfl, by decide +kernel, rfl, by decide +kernel, by decide +kernel⟩
theorem ok_dead_places {d k : Nat} (F : GFun K mg "dead_places" st_dead_places f fd) (c_want_program : Cal P w K mg base 1 "want_program" (spWantProgram CP d) []) (c_flow_of : Cal P w K mg base k "flow_of" (spFlowOf P w CP CF d) []) (c_dead_by_flow : Cal P w K mg base 3 "dead_by_flow" (spDead P w CP CF d) []) (hk : 3 ≤ k) :
    Cal P w K mg base (k + 1) "dead_places" (spDeadPlaces P w CP CF d) [] := by
  have b : Binds K fd ["program"] [] := F.fn.binds fun _ _ _ _ _ _ us hl => match us, hl with | [_], _ => rfl
  refine cal_of F b (F.fn.ok sc_dead_places (fun vs H Q E h => ?_) (fun cdv A outer s H vs Q E hr h => ?_))
  · obtain ⟨_, _, _, _, rfl, _⟩ := h
    rfl
  obtain ⟨p, sh, bodies, th, rfl, hP, h6, hsh, hok, hd, hth4, hth, q⟩ := h
  refine ⟨_, ((pss_cons (ps_set (i := 1) sc_dead_places.nd rfl (Or.inl rfl) (pe_c c_want_program hr (by omega) (by rfl) (pa_cons (pv 0) pa_nil)))
  (pss_one (ps_ret (pe_c c_dead_by_flow hr (by omega) (by rfl) (pa_cons (pv 1) (pa_cons (pe_c c_flow_of hr (by omega) (by rfl) (pa_cons (pv 1) pa_nil)) pa_nil))))))), ?_⟩
  refine ⟨_, rfl, p, bodies, th, rfl, hP, ?_⟩
  refine ⟨_, rfl, _, rfl, ending d bodies, RR d bodies th, p, sh, bodies, th, rfl, hP, h6, hok, hd, fun H1 x dx am ao ab ae ap af qs s1 R1 => ?_⟩
  have hz : LS.nil.own.length = 0 := rfl
  have hw : LS.nil.wt = 0 := rfl
  have h1 := layProcs_ow (E := ending d bodies) (R := RR d bodies th) (d := d) bodies 0 LS.nil fun b hb => (hok b hb).2
  have h2 := layProcs_wt (E := ending d bodies) (R := RR d bodies th) (d := d) bodies 0 LS.nil fun b hb => (hok b hb).2
  have h3 : (layProcs (ending d bodies) (RR d bodies th) d bodies 0 LS.nil).mv.length ≤ (layProcs (ending d bodies) (RR d bodies th) d bodies 0 LS.nil).wt := by unfold LS.wt; omega
  have hbl : (begins (ending d bodies) (RR d bodies th) d bodies 0 LS.nil).length = bodies.length := begins_len _ _ _
  refine ⟨p, x, dx, am, ao, ab, ae, ap, af, qs, _, _, bodies, th, rfl, hP.keep s1, R1, ?_, begins_lt bodies 0 LS.nil, fun t ht => by rw [hbl]; exact hth t ht, by omega, by omega, hth4, fun H2 r A s2 hr2 hrn hA => ?_⟩
  · rw [hbl, ← hsh]
    exact layProcs_ok bodies 0 LS.nil (fun b hb => (hok b hb).1) fun m hm => nomatch hm
  · exact q H2 r A (same_trans s1 s2) hr2 (same_none s1 hrn) hA
end
end Dp
namespace Dp
open PySem L2
open C8 (Cal Met Mak pe_c pe_mk pe_mt pe_mt0 pe_gc InsC call_isC)
/-! ### the law's draws -/
def PotAt (H : Hp) (pt : Addr) : Prop := ∃ a b : Int, H pt = some (.lst [.int a, .int b]) ∧ 0 ≤ a ∧ 0 ≤ b ∧ b < 4294967296
theorem PotAt.same {H H' : Hp} {pt : Addr} (h : PotAt H pt) (s : Same H H') : PotAt H' pt := let ⟨a, b, e, r⟩ := h; ⟨a, b, s _ _ e, r⟩
theorem PotAt.ex {H : Hp} {pt : Addr} (h : PotAt H pt) : ∃ ys, H pt = some (.lst ys) := let ⟨_, _, e, _⟩ := h; ⟨_, e⟩
theorem Fr.mem {S : List Addr} {H H' : Hp} {b : Addr} {o : HO} (f : Fr S H H') (e : H b = some o) (h : b ∉ S) : H' b = some o := f.but _ _ e h
section
variable {P : Program} {w : World} {K : PySem.W.Frag} {mg : Str → Option Value} {base : Heap} {kd pw CP CF : Addr} {f : Addr} {fd : FuncData}
def spDraw : Sp := fun vs H Q _ => ∃ (pt : Addr) (n : Nat), vs = [.ref pt, vN n] ∧ PotAt H pt ∧ 1 ≤ n ∧ n ≤ 1000 ∧ ∀ (i : Nat) (H' : Hp), i < n → Fr [pt] H H' → PotAt H' pt → Q (vN i) H'
abbrev st_law_draw : Stmt := top 51
abbrev N_law_draw : List Str := ["_law_pot_here", "_law_many", "_law_digit"]
theorem sc_law_draw : FnScope N_law_draw ["_law_pot_here", "_law_many"] (defScope st_law_draw) := ⟨rfl, rfl, rfl, by decide +kernel, rfl, by decide +kernel, by decide +kernel⟩
theorem ok_law_draw (F : GFun K mg "_law_draw" st_law_draw f fd) (T : Txt K w mg kd pw CP CF) : Cal P w K mg base 1 "_law_draw" spDraw [] := by
  have b : Binds K fd ["_law_pot_here", "_law_many"] [] := F.fn.binds fun _ _ _ _ _ _ us hl => match us, hl with | [_, _], _ => rfl
  refine cal_of F b (F.fn.ok sc_law_draw (fun vs H Q E h => ?_) (fun cdv A outer s H vs Q E hr h => ?_))
  · obtain ⟨_, _, rfl, _⟩ := h
    rfl
  obtain ⟨pt, n, rfl, ⟨a, b, hp, ha, hb, hb2⟩, hn, hn2, q⟩ := h
  have hn0 : (0 : Int) < (n : Int) := by omega
  refine ⟨_, ((pss_cons (ps_if (pt_cmpR op_gt (pe_ix ix_list (pv 0) pe_int (fun _ _ => rfl)) pe_int (nomark _)) (pss_cons (ps_asg (pe_callB call_divmod (by rfl) T.n_divmod bt_divmod (pa_cons (pe_ix ix_list (pv 0) pe_int (fun _ _ => rfl)) (pa_cons (pv 1) pa_nil))) (pg_tup rfl (pgs_cons (pg_sub (pv 0) pe_int set_list) (pgs_cons (pg_name (i := 2) sc_law_draw.nd rfl (Or.inl rfl)) pgs_nil))))
  (pss_one (ps_ret (pv 2)))) pss_nil)
  (pss_cons (ps_asg (pe_op op_mod (pe_callTy call_int1 (by rfl) T.n_int bt_int (pa_cons (pe_op op_add (pe_op op_mul (pe_ix ix_list (pv 0) pe_int (fun _ _ => rfl)) pe_int) pe_int) pa_nil)) pe_int) (pg_sub (pv 0) pe_int set_list))
  (pss_one (ps_ret (pe_op op_mod (pe_callTy call_int1 (by rfl) T.n_int bt_int (pa_cons (pe_op op_fdiv (pe_op op_mod (pe_callTy call_int1 (by rfl) T.n_int bt_int (pa_cons (pe_op op_mul (pe_ix ix_list (pv 0) pe_int (fun _ _ => rfl)) (pe_ix ix_list (pv 0) pe_int (fun _ _ => rfl))) pa_nil)) pe_int) pe_int) pa_nil)) (pv 1))))))), ?_⟩
  refine ⟨_, rfl, pt, _, _, _, rfl, rfl, SqL.of hp, at_of (j := 0) rfl rfl, _, _, rfl, rfl, _, rfl, ?_⟩
  by_cases hg : 0 < a
  · rw [decide_eq_true hg]
    refine iteT ?_
    refine ⟨_, rfl, pt, _, _, _, rfl, rfl, SqL.of hp, at_of (j := 0) rfl rfl, _, rfl, a, n, rfl, ⟨hn0, by omega⟩, fun p2 hp2 => ?_⟩
    have s2 := same_new hp2 (.tup [.int (a / (n : Int)), .int (a % (n : Int))])
    have e2 := s2 _ _ hp
    refine ⟨p2, _, rfl, SqT.of upd_same, rfl, _, _, rfl, ⟨_, rfl, pt, _, 0, 0, rfl, rfl, e2, rfl, ?_⟩⟩
    refine ⟨_, _, rfl, rfl, _, rfl, ?_⟩
    have h0 : 0 ≤ a % (n : Int) := Int.emod_nonneg _ (by omega)
    have h1 : a % (n : Int) < (n : Int) := Int.emod_lt_of_pos _ hn0
    have eN : (V.int (a % (n : Int))) = vN (a % (n : Int)).toNat := by
      show V.int _ = V.int _
      rw [Int.toNat_of_nonneg h0]
    have z := q (a % (n : Int)).toNat _ (by omega) ((Fr.same s2).trans (Fr.lst e2 (List.mem_singleton_self _) (.lst ([V.int a, V.int b].set 0 (V.int (a / (n : Int))))))) ⟨_, b, upd_same, Int.ediv_nonneg ha (by omega), hb, hb2⟩
    rw [← eN] at z
    exact z
  · rw [decide_eq_false hg]
    refine iteF ?_
    refine ⟨_, rfl, pt, _, _, _, rfl, rfl, SqL.of hp, at_of (j := 1) rfl rfl, _, _, rfl, rfl, .inr ⟨by decide, by decide⟩, ?_⟩
    refine ⟨_, _, rfl, rfl, .inl ⟨_, rfl, ?_⟩⟩
    refine ⟨_, _, rfl, rfl, (by show (0 : Int) < 2147483587; decide), ?_⟩
    have c0 : 0 ≤ (b * 39373 + 3011) % 2147483587 := Int.emod_nonneg _ (by decide)
    have c1 : (b * 39373 + 3011) % 2147483587 < 2147483587 := Int.emod_lt_of_pos _ (by decide)
    obtain ⟨c, hc⟩ : ∃ c : Int, c = (b * 39373 + 3011) % 2147483587 := ⟨_, rfl⟩
    rw [← hc] at c0 c1
    refine ⟨_, rfl, pt, _, 1, 1, rfl, rfl, hp, rfl, ?_⟩
    have f1 := Fr.lst hp (List.mem_singleton_self pt) (.lst ([V.int a, V.int b].set 1 (.int ((b * 39373 + 3011) % 2147483587))))
    have hp1 : (upd H pt (.lst ([V.int a, V.int b].set 1 (.int ((b * 39373 + 3011) % 2147483587))))) pt = some (.lst [.int a, .int c]) := by rw [hc]; exact upd_same
    refine ⟨_, rfl, pt, _, _, _, rfl, rfl, SqL.of hp1, at_of (j := 1) rfl rfl, _, rfl, pt, _, _, _, rfl, rfl, SqL.of hp1, at_of (j := 1) rfl rfl, _, _, rfl, rfl, .inl ⟨Int.lt_of_lt_of_le (by decide) c0, Int.lt_trans c1 (by decide)⟩, ?_⟩
    refine .inl ⟨_, rfl, _, _, rfl, rfl, (by show (0 : Int) < 2147483549; decide), _, _, rfl, rfl, ⟨by decide, by decide⟩, .inl ⟨_, rfl, ?_⟩⟩
    refine ⟨_, rfl, _, _, rfl, rfl, hn0, ?_⟩
    have h0 : 0 ≤ (c * c % 2147483549 / 11) % (n : Int) := Int.emod_nonneg _ (by omega)
    have h1 : (c * c % 2147483549 / 11) % (n : Int) < (n : Int) := Int.emod_lt_of_pos _ hn0
    have eN : (V.int ((c * c % 2147483549 / 11) % (n : Int))) = vN ((c * c % 2147483549 / 11) % (n : Int)).toNat := by
      show V.int _ = V.int _
      rw [Int.toNat_of_nonneg h0]
    have z := q ((c * c % 2147483549 / 11) % (n : Int)).toNat _ (by omega) f1 ⟨a, c, hp1, ha, c0, by omega⟩
    rw [← eN] at z
    exact z
theorem ok_dummy : True := trivial
def spPick (K : PySem.W.Frag) : Sp := fun vs H Q _ => ∃ (pt l : Addr) (xs : List V), vs = [.ref pt, .ref l] ∧ PotAt H pt ∧ H l = some (.lst xs) ∧ l ≠ pt ∧ 1 ≤ xs.length ∧ xs.length ≤ 1000 ∧ ∀ (i : Nat) (y : V) (H' : Hp), xs[i]? = some y → Fr [pt] H H' → PotAt H' pt → Q y H'
abbrev st_law_pick : Stmt := top 52
abbrev N_law_pick : List Str := ["_law_pot_here", "_law_some"]
theorem sc_law_pick : FnScope N_law_pick ["_law_pot_here", "_law_some"] (defScope st_law_pick) := ⟨rfl, rfl, rfl, by decide +kernel, rfl, by decide +kernel, by decide +kernel⟩
theorem ok_law_pick (F : GFun K mg "_law_pick" st_law_pick f fd) (T : Txt K w mg kd pw CP CF) (c_law_draw : Cal P w K mg base 1 "_law_draw" spDraw []) : Cal P w K mg base 2 "_law_pick" (spPick K) [] := by
  have b : Binds K fd ["_law_pot_here", "_law_some"] [] := F.fn.binds fun _ _ _ _ _ _ us hl => match us, hl with | [_, _], _ => rfl
  refine cal_of F b (F.fn.ok sc_law_pick (fun vs H Q E h => ?_) (fun cdv A outer s H vs Q E hr h => ?_))
  · obtain ⟨_, _, _, rfl, _⟩ := h
    rfl
  obtain ⟨pt, l, xs, rfl, hp, hl, hne, h1, h2, q⟩ := h
  refine ⟨_, ((pss_one (ps_ret (pe_ix ix_list (pv 1) (pe_c c_law_draw hr (by omega) (by rfl) (pa_cons (pv 0) (pa_cons (pe_callB call_len_seq (by rfl) T.n_len bt_len (pa_cons (pv 1) pa_nil)) pa_nil))) (fun _ _ => rfl))))), ?_⟩
  refine ⟨_, rfl, _, rfl, _, rfl, l, _, rfl, .inl (SqL.of hl), pt, xs.length, rfl, hp, h1, h2, fun i H1 hi f1 hp1 => ?_⟩
  have e : xs[i]? = some xs[i] := List.getElem?_eq_getElem hi
  have hl1 := f1.mem hl (by simpa using hne)
  exact ⟨l, _, i, xs[i], rfl, rfl, SqL.of hl1, atI_nat e, q i _ _ e f1 hp1⟩
end
end Dp
namespace Dp
open PySem L2
open C8 (Cal Met Mak pe_c pe_mk pe_mt pe_mt0 pe_gc InsC call_isC)
theorem Fr.upd_new {S : List Addr} {H H' : Hp} {p : Addr} {o : HO} (f : Fr S H H') (hp : H p = none) (hl : ∀ xs, H' p ≠ some (.tup xs)) : Fr S H (upd H' p o) :=
  ⟨fun b u e hb => by rw [upd_ne (ne_of_none e hp)]; exact f.but _ _ e hb, fun b xs e => by rw [upd_ne (ne_of_none e hp)]; exact f.tups _ _ e⟩
structure LwIn (H : Hp) (pt sp rm : Addr) (sh : Sh) (r : Nat) : Prop where
  pot : PotAt H pt
  shp : H sp = some (.tup [vN sh.L, vN sh.C, vN sh.M, vN sh.P])
  room : H rm = some (.lst [vN r])
  ne : pt ≠ rm
  M1 : 1 ≤ sh.M
  P1 : 1 ≤ sh.P
  big : sh.L ≤ 1000 ∧ sh.C ≤ 1000 ∧ sh.M ≤ 1000 ∧ sh.P ≤ 1000 ∧ r ≤ 1000
theorem LwIn.fr {H H' : Hp} {pt sp rm : Addr} {sh : Sh} {r r' : Nat} (h : LwIn H pt sp rm sh r) (f : Fr [pt, rm] H H') (hp : PotAt H' pt) (hr : H' rm = some (.lst [vN r'])) (hr' : r' ≤ 1000) : LwIn H' pt sp rm sh r' :=
  ⟨hp, f.tups _ _ h.shp, hr, h.ne, h.M1, h.P1, h.big.1, h.big.2.1, h.big.2.2.1, h.big.2.2.2.1, hr'⟩
theorem Fr.two {pt rm : Addr} {H H' : Hp} (f : Fr [pt] H H') : Fr [pt, rm] H H' := f.mono fun b hb => List.mem_cons.mpr (.inl (List.mem_singleton.mp hb))
def spLawBody (deep : Nat) : Sp := fun vs H Q _ => ∃ (pt sp rm : Addr) (sh : Sh) (r : Nat), vs = [.ref pt, .ref sp, vN deep, .ref rm] ∧ LwIn H pt sp rm sh r ∧
  ∀ (p : Addr) (b : List Stm) (r' : Nat) (H' : Hp), BA H' (deep + 1) p b → okB sh (deep + 1) b → szB (deep + 1) b + r' ≤ r → Fr [pt, rm] H H' → PotAt H' pt → H' rm = some (.lst [vN r']) → Q (.ref p) H'
def spLawBodyP : Nat → Sp
  | 0 => fun _ _ _ _ => False
  | n + 1 => spLawBody n
def spLawStm (deep : Nat) : Sp := fun vs H Q _ => ∃ (pt sp rm : Addr) (sh : Sh) (r : Nat), vs = [.ref pt, .ref sp, vN deep, .ref rm] ∧ LwIn H pt sp rm sh r ∧
  ∀ (v : V) (s : Stm) (r' : Nat) (H' : Hp), SA H' (deep + 1) v s → okS sh (deep + 1) s → szS (deep + 1) s + r' ≤ r + 1 → Fr [pt, rm] H H' → PotAt H' pt → H' rm = some (.lst [vN r']) → Q v H'
section
variable {P : Program} {w : World} {K : PySem.W.Frag} {mg : Str → Option Value} {base : Heap} {kd pw CP CF : Addr} {f : Addr} {fd : FuncData}
abbrev st_law_body : Stmt := top 53
abbrev N_law_body : List Str := ["_law_pot_here", "_law_shape", "_law_deep", "_law_room", "_law_found", "_law_turn"]
theorem sc_law_body : FnScope N_law_body ["_law_pot_here", "_law_shape", "_law_deep", "_law_room"] (defScope st_law_body) := ⟨rfl, rfl, rfl, by decide +kernel, rfl, by decide +kernel, by decide +kernel⟩
theorem ok_law_body {deep k : Nat} (F : GFun K mg "_law_body" st_law_body f fd) (T : Txt K w mg kd pw CP CF) (c_law_draw : Cal P w K mg base 1 "_law_draw" spDraw []) (c_law_statement : Cal P w K mg base k "_law_statement" (spLawStm deep) []) (hk : 1 ≤ k) : Cal P w K mg base (k + 1) "_law_body" (spLawBody deep) [] := by
  have b : Binds K fd ["_law_pot_here", "_law_shape", "_law_deep", "_law_room"] [] := F.fn.binds fun _ _ _ _ _ _ us hl => match us, hl with | [_, _, _, _], _ => rfl
  refine cal_of F b (F.fn.ok sc_law_body (fun vs H Q E h => ?_) (fun cdv A outer s H vs Q E hr h => ?_))
  · obtain ⟨_, _, _, _, _, rfl, _⟩ := h
    rfl
  obtain ⟨pt, sp, rm, sh, r, rfl, I, q⟩ := h
  refine ⟨_, ((pss_cons (ps_set (i := 4) sc_law_body.nd rfl (Or.inl rfl) (pe_lst pa_nil))
  (pss_cons (ps_for PassesOwn.never rfl (pi_range1 (by rfl) T.n_range (pa_cons (pe_c c_law_draw hr (by omega) (by rfl) (pa_cons (pv 0) (pa_cons pe_int pa_nil))) pa_nil)) (pg_name (i := 5) sc_law_body.nd rfl (Or.inl rfl))
  (pss_one (ps_if (pt_cmpR op_gt (pe_ix ix_list (pv 3) pe_int (fun _ _ => rfl)) pe_int (nomark _)) (pss_cons (ps_asg (pe_op op_sub (pe_ix ix_list (pv 3) pe_int (fun _ _ => rfl)) pe_int) (pg_sub (pv 3) pe_int set_list))
  (pss_one (ps_expr (pe_bm PySem.F.plainAttrs_list PySem.F.slot_list_append PySem.F.type_list_append mt_append (pv 4) (pa_cons (pe_c c_law_statement hr (by omega) (by rfl) (pa_cons (pv 0) (pa_cons (pv 1) (pa_cons (pv 2) (pa_cons (pv 3) pa_nil))))) pa_nil))))) pss_nil)))
  (pss_one (ps_ret (pe_callTy call_tuple_of (by rfl) T.n_tuple bt_tuple (pa_cons (pv 4) pa_nil))))))), ?_⟩
  refine ⟨Nat.zero_le _, fun fo hfo => ?_⟩
  have s1 := same_new hfo (.lst [])
  refine ⟨_, rfl, pt, 4, rfl, I.pot.same s1, by decide, by decide, fun i H1 hi f1 hp1 => ⟨_, rfl, by omega, by omega, ?_⟩⟩
  have hfo1 : H1 fo = some (.lst []) := by
    refine f1.mem upd_same ?_
    obtain ⟨ys, hy⟩ := I.pot.ex
    simpa using (ne_of_none hy hfo).symm
  have nfp : fo ≠ pt := by
    obtain ⟨ys, hy⟩ := I.pot.ex
    exact (ne_of_none hy hfo).symm
  have nfr : fo ≠ rm := (ne_of_none I.room hfo).symm
  have fr1 : Fr [pt, rm] H H1 := (Fr.same s1).trans f1.two
  have hr1 : H1 rm = some (.lst [vN r]) := f1.mem (s1 _ _ I.room) (by simpa using I.ne.symm)
  refine for_it (walk_range (lo := 0) (n := (i : Int).toNat)) (fun j σ H2 => ∃ (n5 : Option V) (vs : List V) (b : List Stm) (r' : Nat), σ = [some (.ref pt), some (.ref sp), some (vN deep), some (.ref rm), some (.ref fo), n5] ∧ Fr [pt, rm] H H2 ∧ PotAt H2 pt ∧ H2 rm = some (.lst [vN r']) ∧
    H2 fo = some (.lst vs) ∧ Paired (SA H2 (deep + 1)) vs b ∧ okB sh (deep + 1) b ∧ szB (deep + 1) b + r' ≤ r ∧ vs.length ≤ j) ⟨none, [], [], r, rfl, fr1, hp1, hr1, hfo1, .nil, fun s hs => (nomatch hs), Nat.le_of_eq (Nat.zero_add r), Nat.le_refl _⟩ (fun _ _ _ _ _ => trivial) ?_ ?_
  · rintro j y σ H2 H2' hj ⟨n5, vs, bd, r', rfl, f2, hp2, hr2, hfo2, hvs, hok, hsz, hlen⟩ ⟨rfl, rfl⟩
    have hb1000 := I.big.2.2.2.2
    refine ⟨_, rfl, rm, _, _, _, rfl, rfl, SqL.of hr2, at_of (j := 0) rfl rfl, _, _, rfl, rfl, _, rfl, ?_⟩
    by_cases hg : 0 < r'
    · rw [decide_eq_true (show (0 : Int) < (r' : Int) by omega)]
      refine iteT ?_
      refine ⟨_, rfl, rm, _, _, _, rfl, rfl, SqL.of hr2, at_of (j := 0) rfl rfl, _, _, rfl, rfl, _, rfl, rm, _, 0, 0, rfl, rfl, hr2, rfl, ?_⟩
      have ee : ([vN r'].set 0 (V.int ((r' : Int) - 1))) = [vN (r' - 1)] := by
        show [V.int ((r' : Int) - 1)] = [V.int ((r' - 1 : Nat) : Int)]
        rw [show ((r' - 1 : Nat) : Int) = (r' : Int) - 1 by omega]
      have f3 : Fr [pt, rm] H2' (upd H2' rm (.lst ([vN r'].set 0 (V.int ((r' : Int) - 1))))) := Fr.lst hr2 (by simp) _
      have hr3 : (upd H2' rm (.lst ([vN r'].set 0 (V.int ((r' : Int) - 1))))) rm = some (.lst [vN (r' - 1)]) := by rw [upd_same, ee]
      have hp3 : PotAt (upd H2' rm (.lst ([vN r'].set 0 (V.int ((r' : Int) - 1))))) pt := by
        obtain ⟨a, b, e, z⟩ := hp2
        exact ⟨a, b, by rw [upd_ne I.ne]; exact e, z⟩
      have hfo3 : (upd H2' rm (.lst ([vN r'].set 0 (V.int ((r' : Int) - 1))))) fo = some (.lst vs) := by rw [upd_ne nfr]; exact hfo2
      refine ⟨_, rfl, .inl ⟨rfl, _, SqL.of hfo3⟩, _, rfl, _, rfl, _, rfl, _, rfl, pt, sp, rm, sh, r' - 1, rfl, (I.fr f2 hp2 hr2 (by omega)).fr f3 hp3 hr3 (by omega), fun v s r2 H4 hsa hos hss f4 hp4 hr4 => ?_⟩
      have hfo4 : H4 fo = some (.lst vs) := f4.mem hfo3 (by simp; exact ⟨nfp, nfr⟩)
      refine ⟨fo, _, _, rfl, rfl, hfo4, lt_sizeLine (by omega), ?_⟩
      have t5 : Tups H4 (upd H4 fo (.lst (vs ++ [v]))) := tups_lst hfo4
      have f25 := (f3.trans f4).tups.trans t5
      refine ⟨_, vs ++ [v], bd ++ [s], r2, rfl, (f2.trans (f3.trans f4)).upd_new hfo (fun xs z => by rw [hfo4] at z; cases z), ?_, ?_, upd_same, paired_add (paired_mono (fun _ _ z => SA_mono f25 _ z) hvs) (SA_mono t5 _ hsa), ?_, ?_, ?_⟩
      · obtain ⟨a, b, e, z⟩ := hp4
        exact ⟨a, b, by rw [upd_ne nfp.symm]; exact e, z⟩
      · rw [upd_ne nfr.symm]; exact hr4
      · intro s' hs'
        rcases List.mem_append.mp hs' with hs' | hs'
        · exact hok s' hs'
        · rw [List.mem_singleton.mp hs']; exact hos
      · have : szB (deep + 1) (bd ++ [s]) = szB (deep + 1) bd + (szS (deep + 1) s + 0) := szL_append _ _ _
        omega
      · rw [List.length_append, List.length_singleton]; omega
    · rw [decide_eq_false (show ¬ (0 : Int) < (r' : Int) by omega)]
      exact iteF ⟨_, vs, bd, r', rfl, f2, hp2, hr2, hfo2, hvs, hok, hsz, by omega⟩
  · rintro σ H2 ⟨n5, vs, bd, r', rfl, f2, hp2, hr2, hfo2, hvs, hok, hsz, hlen⟩
    refine ⟨_, rfl, fo, _, rfl, .inl ⟨SqL.of hfo2, fun p hp => ?_⟩⟩
    have s3 := same_new hp (.tup vs)
    exact q p bd r' _ ⟨vs, upd_same, paired_mono (fun _ _ z => SA_mono s3.tups _ z) hvs⟩ hok hsz (f2.trans (Fr.same s3)) (hp2.same s3) (s3 _ _ hr2)

theorem in2 (a b x : Str) : inV (.str x) [.str a, .str b] = (decide (x = a) || decide (x = b)) := by
  show (eqV (.str a) (.str x) || (eqV (.str b) (.str x) || false)) = _
  have e : ∀ a x : Str, eqV (.str a) (.str x) = decide (x = a) := fun a x => by
    show (a == x) = decide (x = a)
    by_cases h : x = a
    · rw [h]; simp
    · rw [decide_eq_false h]
      exact beq_eq_false_iff_ne.mpr fun z => h z.symm
  rw [e, e, Bool.or_false]
theorem dec_str (a x : Str) : decide (V.str x = V.str a) = decide (x = a) := by
  by_cases h : x = a
  · rw [h]; simp
  · rw [decide_eq_false h, decide_eq_false (fun e => h (V.str.inj e))]
abbrev words7 : List Str := ["skip", "touch", "write", "mark", "set", "claim", "call"]
abbrev words6 : List Str := ["hold", "either", "when", "loop", "hold", "either"]
theorem w7_no : ∀ x ∈ words7, ¬ x = "hold" ∧ ¬ x = "either" ∧ ¬ x = "when" ∧ ¬ x = "loop" := by decide +kernel
theorem join_if {G : Prop} {N : L2.St → Hp → Prop} (Pm : L2.St → Hp → Prop) (h : (∀ σ' H', Pm σ' H' → N σ' H') → G) (main : ∀ σ' H', Pm σ' H' → N σ' H') : G := h main
abbrev st_law_statement : Stmt := top 54
abbrev N_law_statement : List Str := ["_law_pot_here", "_law_shape", "_law_deep", "_law_room", "_law_locks", "_law_cells", "_law_modes", "_law_procedures", "_law_words", "_law_word", "_law_lock", "_law_first", "_law_mode"]
theorem sc_law_statement : FnScope N_law_statement ["_law_pot_here", "_law_shape", "_law_deep", "_law_room"] (defScope st_law_statement) := ⟨rfl, rfl, rfl, by decide +kernel, rfl, by decide +kernel, by decide +kernel⟩
theorem ok_law_statement {deep k : Nat} (F : GFun K mg "_law_statement" st_law_statement f fd) (T : Txt K w mg kd pw CP CF) (c_law_draw : Cal P w K mg base 1 "_law_draw" spDraw []) (c_law_pick : Cal P w K mg base 2 "_law_pick" (spPick K) [])
    (c_law_body : Cal P w K mg base k "_law_body" (spLawBodyP deep) []) (hk : 2 ≤ k) : Cal P w K mg base (k + 1) "_law_statement" (spLawStm deep) [] := by
  have b : Binds K fd ["_law_pot_here", "_law_shape", "_law_deep", "_law_room"] [] := F.fn.binds fun _ _ _ _ _ _ us hl => match us, hl with | [_, _, _, _], _ => rfl
  refine cal_of F b (F.fn.ok sc_law_statement (fun vs H Q E h => ?_) (fun cdv A outer s H vs Q E hr h => ?_))
  · obtain ⟨_, _, _, _, _, rfl, _⟩ := h
    rfl
  obtain ⟨pt, sp, rm, sh, r, rfl, I, q⟩ := h
  refine ⟨_, ((pss_cons (ps_asg (pv 1) (pg_tup rfl (pgs_cons (pg_name (i := 4) sc_law_statement.nd rfl (Or.inl rfl)) (pgs_cons (pg_name (i := 5) sc_law_statement.nd rfl (Or.inl rfl)) (pgs_cons (pg_name (i := 6) sc_law_statement.nd rfl (Or.inl rfl)) (pgs_cons (pg_name (i := 7) sc_law_statement.nd rfl (Or.inl rfl)) pgs_nil))))))
  (pss_cons (ps_set (i := 8) sc_law_statement.nd rfl (Or.inl rfl) (pe_lst (pa_cons pe_str (pa_cons pe_str (pa_cons pe_str (pa_cons pe_str (pa_cons pe_str (pa_cons pe_str (pa_cons pe_str pa_nil)))))))))
  (pss_cons (ps_if (pt_cmpR op_gt (pv 2) pe_int (nomark _)) (pss_one (ps_set (i := 8) sc_law_statement.nd rfl (Or.inl rfl) (pe_op op_cat (pv 8) (pe_lst (pa_cons pe_str (pa_cons pe_str (pa_cons pe_str (pa_cons pe_str (pa_cons pe_str (pa_cons pe_str pa_nil)))))))))) pss_nil)
  (pss_cons (ps_set (i := 9) sc_law_statement.nd rfl (Or.inl rfl) (pe_c c_law_pick hr (by omega) (by rfl) (pa_cons (pv 0) (pa_cons (pv 8) pa_nil))))
  (pss_cons (ps_if (PW.pt (pw_and (pt_cmpR op_in_seq (pv 9) (pe_tup (pa_cons pe_str (pa_cons pe_str pa_nil))) (by rfl)) (pw_and1 (pt_cmpR op_gt (pv 5) pe_int (nomark _))))) (pss_one (ps_ret (pe_tup (pa_cons (pv 9) (pa_cons (pe_c c_law_draw hr (by omega) (by rfl) (pa_cons (pv 0) (pa_cons (pv 5) pa_nil))) pa_nil))))) pss_nil)
  (pss_cons (ps_if (pt_cmpR op_eq (pv 9) pe_str (nomark _)) (pss_one (ps_ret (pe_tup (pa_cons (pv 9) (pa_cons (pe_c c_law_draw hr (by omega) (by rfl) (pa_cons (pv 0) (pa_cons pe_int pa_nil))) pa_nil))))) pss_nil)
  (pss_cons (ps_if (pt_cmpR op_in_seq (pv 9) (pe_tup (pa_cons pe_str (pa_cons pe_str pa_nil))) (by rfl)) (pss_one (ps_ret (pe_tup (pa_cons (pv 9) (pa_cons (pe_c c_law_draw hr (by omega) (by rfl) (pa_cons (pv 0) (pa_cons (pv 6) pa_nil))) pa_nil))))) pss_nil)
  (pss_cons (ps_if (pt_cmpR op_eq (pv 9) pe_str (nomark _)) (pss_one (ps_ret (pe_tup (pa_cons (pv 9) (pa_cons (pe_c c_law_draw hr (by omega) (by rfl) (pa_cons (pv 0) (pa_cons (pv 7) pa_nil))) pa_nil))))) pss_nil)
  (pss_cons (ps_if (PW.pt (pw_and (pt_cmpR op_eq (pv 9) pe_str (nomark _)) (pw_and1 (pt_cmpR op_gt (pv 4) pe_int (nomark _))))) (pss_cons (ps_set (i := 10) sc_law_statement.nd rfl (Or.inl rfl) (pe_c c_law_draw hr (by omega) (by rfl) (pa_cons (pv 0) (pa_cons (pv 4) pa_nil))))
  (pss_one (ps_ret (pe_tup (pa_cons pe_str (pa_cons (pv 10) (pa_cons (pe_c c_law_body hr (by omega) (by rfl) (pa_cons (pv 0) (pa_cons (pv 1) (pa_cons (pe_op op_sub (pv 2) pe_int) (pa_cons (pv 3) pa_nil))))) pa_nil))))))) pss_nil)
  (pss_cons (ps_if (pt_cmpR op_eq (pv 9) pe_str (nomark _)) (pss_cons (ps_set (i := 11) sc_law_statement.nd rfl (Or.inl rfl) (pe_c c_law_body hr (by omega) (by rfl) (pa_cons (pv 0) (pa_cons (pv 1) (pa_cons (pe_op op_sub (pv 2) pe_int) (pa_cons (pv 3) pa_nil))))))
  (pss_one (ps_ret (pe_tup (pa_cons pe_str (pa_cons (pv 11) (pa_cons (pe_c c_law_body hr (by omega) (by rfl) (pa_cons (pv 0) (pa_cons (pv 1) (pa_cons (pe_op op_sub (pv 2) pe_int) (pa_cons (pv 3) pa_nil))))) pa_nil))))))) pss_nil)
  (pss_cons (ps_if (pt_cmpR op_eq (pv 9) pe_str (nomark _)) (pss_cons (ps_set (i := 12) sc_law_statement.nd rfl (Or.inl rfl) (pe_c c_law_draw hr (by omega) (by rfl) (pa_cons (pv 0) (pa_cons (pv 6) pa_nil))))
  (pss_cons (ps_set (i := 11) sc_law_statement.nd rfl (Or.inl rfl) (pe_c c_law_body hr (by omega) (by rfl) (pa_cons (pv 0) (pa_cons (pv 1) (pa_cons (pe_op op_sub (pv 2) pe_int) (pa_cons (pv 3) pa_nil))))))
  (pss_one (ps_ret (pe_tup (pa_cons pe_str (pa_cons (pv 12) (pa_cons (pv 11) (pa_cons (pe_c c_law_body hr (by omega) (by rfl) (pa_cons (pv 0) (pa_cons (pv 1) (pa_cons (pe_op op_sub (pv 2) pe_int) (pa_cons (pv 3) pa_nil))))) pa_nil))))))))) pss_nil)
  (pss_one (ps_ret (pe_ifExp (pt_cmpR op_eq (pv 9) pe_str (nomark _)) (pe_tup (pa_cons pe_str (pa_cons (pe_c c_law_body hr (by omega) (by rfl) (pa_cons (pv 0) (pa_cons (pv 1) (pa_cons (pe_op op_sub (pv 2) pe_int) (pa_cons (pv 3) pa_nil))))) pa_nil))) (pe_tup (pa_cons pe_str pa_nil))))))))))))))))), ?_⟩
  refine ⟨_, rfl, sp, _, rfl, SqT.of I.shp, rfl, _, _, rfl, _, _, rfl, _, _, rfl, _, _, rfl, rfl, ?_⟩
  -- the words
  refine ⟨by show 7 ≤ sizeLine; decide, fun l1 hl1 => ?_⟩
  have s1 := same_new hl1 (.lst (words7.map V.str))
  have hw1 : (upd H l1 (.lst (words7.map V.str))) l1 = some (.lst (words7.map V.str)) := upd_same
  refine ⟨_, rfl, _, _, rfl, rfl, _, rfl, ?_⟩
  have npt : ∀ {l : Addr} {H1 : Hp}, Same H H1 → H1 l = none → l ≠ pt := fun e hl => by
    obtain ⟨ys, hy⟩ := I.pot.ex
    exact (ne_of_none (e _ _ hy) hl).symm
  apply join_if (fun σ' H' => ∃ (lw : Addr) (ws : List Str), σ' = [some (.ref pt), some (.ref sp), some (vN deep), some (.ref rm), some (vN sh.L), some (vN sh.C), some (vN sh.M), some (vN sh.P), some (.ref lw), none, none, none, none] ∧ Same H H' ∧ H' lw = some (.lst (ws.map V.str)) ∧ lw ≠ pt ∧ 1 ≤ ws.length ∧ ws.length ≤ 13 ∧ ∀ x ∈ ws, x ∈ words7 ∨ 0 < deep)
  · intro mn
    by_cases hd : ¬ 0 < deep
    · rw [decide_eq_false (show ¬ (0 : Int) < (deep : Int) by omega)]
      refine iteF ?_
      exact mn _ _ ⟨l1, words7, rfl, s1, hw1, npt (fun b o e => e) hl1, by decide, by decide, fun x hx => .inl hx⟩
    · rw [decide_eq_true (show (0 : Int) < (deep : Int) by omega)]
      refine iteT ?_
      refine ⟨_, rfl, by show 6 ≤ sizeLine; decide, fun l2 hl2 => ?_⟩
      have s2 := same_new hl2 (.lst (words6.map V.str))
      refine ⟨l1, l2, _, _, rfl, rfl, s2 _ _ hw1, upd_same, by show 7 + 6 ≤ sizeLine; decide, fun l3 hl3 => ?_⟩
      have s3 := same_new hl3 (.lst (words7.map V.str ++ words6.map V.str))
      exact mn _ _ ⟨l3, words7 ++ words6, rfl, same_trans s1 (same_trans s2 s3), by rw [List.map_append]; exact upd_same, npt (same_trans s1 s2) hl3, by decide, by decide, fun x hx => .inr (by omega)⟩
  rintro σ' H2 ⟨lw, ws, rfl, s2, hlw, hne, h1, h13, hws⟩
  -- word = pick
  refine ⟨_, rfl, _, rfl, pt, lw, _, rfl, I.pot.same s2, hlw, hne, by rw [List.length_map]; exact h1, by rw [List.length_map]; omega, fun i y H3 hy f3 hp3 => ?_⟩
  obtain ⟨wd, hwd, rfl⟩ : ∃ wd, ws[i]? = some wd ∧ V.str wd = y := by
    rw [List.getElem?_map] at hy
    exact Option.map_eq_some_iff.mp hy
  have hcl := hws wd (List.mem_of_getElem? hwd)
  have fr3 : Fr [pt, rm] H H3 := (Fr.same s2).trans f3.two
  have hr3 : H3 rm = some (.lst [vN r]) := f3.mem (s2 _ _ I.room) (by simpa using I.ne.symm)
  have I3 : LwIn H3 pt sp rm sh r := I.fr fr3 hp3 hr3 I.big.2.2.2.2
  obtain ⟨bL, bC, bM, bP, bR⟩ := I.big
  -- the end of a plain statement
  have plainEnd : ∀ (w : PW) (H4 : Hp) (i : Nat) (q : Addr), wd = w.str → i < w.bound sh → Fr [pt, rm] H H4 → PotAt H4 pt → H4 rm = some (.lst [vN r]) → H4 q = none → Q (.ref q) (upd H4 q (.tup [.str wd, vN i])) := fun w H4 i t e hi f4 hp4 hr4 ht => by
    have sq := same_new ht (.tup [.str wd, vN i])
    exact q _ (.plain w i) r _ ⟨t, rfl, by show _ = some (HO.tup [V.str w.str, vN i]); rw [← e]; exact upd_same⟩ hi (by show 1 + r ≤ r + 1; omega) (f4.trans (Fr.same sq)) (hp4.same sq) (sq _ _ hr4)
  -- a draw, then the pair
  have LwStep : ∀ (H4 : Hp), Fr [pt, rm] H H4 → PotAt H4 pt → H4 rm = some (.lst [vN r]) → ∀ (H5 : Hp), Fr [pt] H4 H5 → Fr [pt, rm] H H5 ∧ H5 rm = some (.lst [vN r]) := fun H4 f4 hp4 hr4 H5 f5 => ⟨f4.trans f5.two, f5.mem hr4 (by simpa using I.ne.symm)⟩
  refine ⟨_, rfl, by show 2 ≤ sizeLine; decide, fun t1 ht1 => ?_⟩
  have s4 := same_new ht1 (.tup [.str "touch", .str "write"])
  refine ⟨t1, _, rfl, .inr (SqT.of upd_same), rfl, rfl, _, rfl, ?_⟩
  have fr4 := fr3.trans (Fr.same s4)
  have hp4 := hp3.same s4
  have hr4 := s4 _ _ hr3
  generalize upd H3 t1 (.tup [.str "touch", .str "write"]) = H4 at fr4 hp4 hr4
  rw [show (if false = true then !inV (.str wd) [.str "touch", .str "write"] else inV (.str wd) [.str "touch", .str "write"]) = (decide (wd = "touch") || decide (wd = "write")) from in2 _ _ _]
  have bodyStep : ∀ (n : Nat), deep = n + 1 → ∀ (H5 : Hp) (r5 : Nat) (Q' : VK) (E' : XK), LwIn H5 pt sp rm sh r5 → (∀ (p : Addr) (b : List Stm) (r' : Nat) (H' : Hp), BA H' (n + 1) p b → okB sh (n + 1) b → szB (n + 1) b + r' ≤ r5 → Fr [pt, rm] H5 H' → PotAt H' pt → H' rm = some (.lst [vN r']) → Q' (.ref p) H') →
      spLawBodyP deep [.ref pt, .ref sp, .int ((deep : Nat) - 1), .ref rm] H5 Q' E' := fun n hn H5 r5 Q' E' I5 h => by
    subst hn
    exact ⟨pt, sp, rm, sh, r5, congrArg (fun z : Int => [V.ref pt, V.ref sp, V.int z, V.ref rm]) (by omega), I5, h⟩
  apply join_if (fun σ' H' => σ' = [some (.ref pt), some (.ref sp), some (vN deep), some (.ref rm), some (vN sh.L), some (vN sh.C), some (vN sh.M), some (vN sh.P), some (.ref lw), some (.str wd), none, none, none] ∧ H' = H4)
  · intro mn
    by_cases c1 : ¬ (wd = "touch" ∨ wd = "write")
    · rw [decide_eq_false (fun z => c1 (.inl z)), decide_eq_false (fun z => c1 (.inr z))]
      refine iteF (iteF ?_)
      exact mn _ _ ⟨rfl, rfl⟩
    have c1 : wd = "touch" ∨ wd = "write" := Classical.not_not.mp c1
    have e1 : (decide (wd = "touch") || decide (wd = "write")) = true := by
      rcases c1 with c | c <;> simp [c]
    rw [e1]
    refine iteT ⟨_, rfl, _, _, rfl, rfl, _, rfl, ?_⟩
    by_cases hC : ¬ 0 < sh.C
    · rw [decide_eq_false (show ¬ (0 : Int) < (sh.C : Int) by omega)]
      refine iteF ?_
      exact mn _ _ ⟨rfl, rfl⟩
    · rw [decide_eq_true (show (0 : Int) < (sh.C : Int) by omega)]
      refine iteT ⟨_, rfl, _, rfl, _, rfl, pt, sh.C, rfl, hp4, by omega, bC, fun i H5 hi f5 hp5 => ⟨by show 2 ≤ sizeLine; decide, fun t2 ht2 => ?_⟩⟩
      obtain ⟨fr5, hr5⟩ := LwStep H4 fr4 hp4 hr4 H5 f5
      rcases c1 with c | c
      · exact plainEnd .touch H5 i t2 c hi fr5 hp5 hr5 ht2
      · exact plainEnd .write H5 i t2 c hi fr5 hp5 hr5 ht2
  rintro σ' H' ⟨rfl, rfl⟩
  -- mark
  refine ⟨_, rfl, rfl, _, rfl, ?_⟩
  rw [dec_str]
  by_cases c2 : wd = "mark"
  · rw [decide_eq_true c2]
    refine iteT ⟨_, rfl, _, rfl, pt, 10, rfl, hp4, by omega, by omega, fun i H5 hi f5 hp5 => ⟨by show 2 ≤ sizeLine; decide, fun t2 ht2 => ?_⟩⟩
    obtain ⟨fr5, hr5⟩ := LwStep _ fr4 hp4 hr4 H5 f5
    exact plainEnd .mark H5 i t2 c2 hi fr5 hp5 hr5 ht2
  rw [decide_eq_false c2]
  refine iteF ?_
  -- set, claim
  refine ⟨_, rfl, by show 2 ≤ sizeLine; decide, fun t3 ht3 => ?_⟩
  have s5 := same_new ht3 (.tup [.str "set", .str "claim"])
  refine ⟨t3, _, rfl, .inr (SqT.of upd_same), rfl, rfl, _, rfl, ?_⟩
  have fr5 := fr4.trans (Fr.same s5)
  have hp5 := hp4.same s5
  have hr5 := s5 _ _ hr4
  generalize upd H' t3 (.tup [.str "set", .str "claim"]) = H5 at fr5 hp5 hr5
  rw [show (if false = true then !inV (.str wd) [.str "set", .str "claim"] else inV (.str wd) [.str "set", .str "claim"]) = (decide (wd = "set") || decide (wd = "claim")) from in2 _ _ _]
  by_cases c3 : wd = "set" ∨ wd = "claim"
  · have e3 : (decide (wd = "set") || decide (wd = "claim")) = true := by
      rcases c3 with c | c <;> simp [c]
    rw [e3]
    refine iteT ⟨_, rfl, _, rfl, _, rfl, pt, sh.M, rfl, hp5, I.M1, bM, fun i H6 hi f6 hp6 => ⟨by show 2 ≤ sizeLine; decide, fun t2 ht2 => ?_⟩⟩
    obtain ⟨fr6, hr6⟩ := LwStep H5 fr5 hp5 hr5 H6 f6
    rcases c3 with c | c
    · exact plainEnd .set H6 i t2 c hi fr6 hp6 hr6 ht2
    · exact plainEnd .claim H6 i t2 c hi fr6 hp6 hr6 ht2
  rw [decide_eq_false (fun z => c3 (.inl z)), decide_eq_false (fun z => c3 (.inr z))]
  refine iteF ?_
  -- call
  refine ⟨_, rfl, rfl, _, rfl, ?_⟩
  rw [dec_str]
  by_cases c4 : wd = "call"
  · rw [decide_eq_true c4]
    refine iteT ⟨_, rfl, _, rfl, _, rfl, pt, sh.P, rfl, hp5, I.P1, bP, fun i H6 hi f6 hp6 => ⟨by show 2 ≤ sizeLine; decide, fun t2 ht2 => ?_⟩⟩
    obtain ⟨fr6, hr6⟩ := LwStep H5 fr5 hp5 hr5 H6 f6
    exact plainEnd .call H6 i t2 c4 hi fr6 hp6 hr6 ht2
  rw [decide_eq_false c4]
  refine iteF ?_
  -- hold
  have hdeep : (wd = "hold" ∨ wd = "either" ∨ wd = "when" ∨ wd = "loop") → ∃ n, deep = n + 1 := fun z => by
    rcases hcl with h | h
    · obtain ⟨a, b, c, d⟩ := w7_no wd h
      rcases z with z | z | z | z
      · exact absurd z a
      · exact absurd z b
      · exact absurd z c
      · exact absurd z d
    · exact ⟨deep - 1, by omega⟩
  have I5 : LwIn H5 pt sp rm sh r := I.fr fr5 hp5 hr5 bR
  refine ⟨_, rfl, rfl, _, rfl, ?_⟩
  rw [dec_str]
  apply join_if (fun σ' H' => σ' = [some (.ref pt), some (.ref sp), some (vN deep), some (.ref rm), some (vN sh.L), some (vN sh.C), some (vN sh.M), some (vN sh.P), some (.ref lw), some (.str wd), none, none, none] ∧ H' = H5)
  · intro mn
    by_cases c5 : ¬ wd = "hold"
    · rw [decide_eq_false c5]
      refine iteF (iteF ?_)
      exact mn _ _ ⟨rfl, rfl⟩
    have c5 : wd = "hold" := Classical.not_not.mp c5
    rw [decide_eq_true c5]
    refine iteT ⟨_, rfl, _, _, rfl, rfl, _, rfl, ?_⟩
    by_cases hL : ¬ 0 < sh.L
    · rw [decide_eq_false (show ¬ (0 : Int) < (sh.L : Int) by omega)]
      refine iteF ?_
      exact mn _ _ ⟨rfl, rfl⟩
    rw [decide_eq_true (show (0 : Int) < (sh.L : Int) by omega)]
    obtain ⟨n, hn⟩ := hdeep (.inl c5)
    refine iteT ⟨_, rfl, _, rfl, pt, sh.L, rfl, hp5, by omega, bL, fun i H6 hi f6 hp6 => ?_⟩
    obtain ⟨fr6, hr6⟩ := LwStep H5 fr5 hp5 hr5 H6 f6
    refine ⟨_, rfl, _, rfl, _, rfl, _, rfl, _, _, rfl, rfl, _, rfl, bodyStep n hn H6 r _ _ (I.fr fr6 hp6 hr6 bR) fun p b r' H7 hba hok hsz f7 hp7 hr7 => ⟨by show 3 ≤ sizeLine; decide, fun t ht => ?_⟩⟩
    subst hn
    have sq := same_new ht (.tup [.str "hold", vN i, .ref p])
    exact q _ (.hold i b) r' _ ⟨t, rfl, p, upd_same, BA_mono sq.tups hba⟩ ⟨by omega, hok⟩ (by show 1 + szB (n + 1) b + r' ≤ r + 1; omega) ((fr6.trans f7).trans (Fr.same sq)) (hp7.same sq) (sq _ _ hr7)
  rintro σ' H' ⟨rfl, rfl⟩
  -- either
  refine ⟨_, rfl, rfl, _, rfl, ?_⟩
  rw [dec_str]
  by_cases c6 : wd = "either"
  · rw [decide_eq_true c6]
    obtain ⟨n, hn⟩ := hdeep (.inr (.inl c6))
    refine iteT ⟨_, rfl, _, rfl, _, rfl, _, _, rfl, rfl, _, rfl, bodyStep n hn _ r _ _ I5 fun p b r' H7 hba hok hsz f7 hp7 hr7 => ?_⟩
    refine ⟨_, rfl, _, rfl, _, rfl, _, rfl, _, _, rfl, rfl, _, rfl, bodyStep n hn H7 r' _ _ (I5.fr f7 hp7 hr7 (by omega)) fun p2 b2 r2 H8 hba2 hok2 hsz2 f8 hp8 hr8 => ⟨by show 3 ≤ sizeLine; decide, fun t ht => ?_⟩⟩
    subst hn
    have sq := same_new ht (.tup [.str "either", .ref p, .ref p2])
    exact q _ (.either b b2) r2 _ ⟨t, rfl, p, p2, upd_same, BA_mono (f8.tups.trans sq.tups) hba, BA_mono sq.tups hba2⟩ ⟨hok, hok2⟩ (by show 1 + (szB (n + 1) b + szB (n + 1) b2) + r2 ≤ r + 1; omega) (((fr5.trans f7).trans f8).trans (Fr.same sq)) (hp8.same sq) (sq _ _ hr8)
  rw [decide_eq_false c6]
  refine iteF ?_
  -- when
  refine ⟨_, rfl, rfl, _, rfl, ?_⟩
  rw [dec_str]
  by_cases c7 : wd = "when"
  · rw [decide_eq_true c7]
    obtain ⟨n, hn⟩ := hdeep (.inr (.inr (.inl c7)))
    refine iteT ⟨_, rfl, _, rfl, pt, sh.M, rfl, hp5, I.M1, bM, fun i H6 hi f6 hp6 => ?_⟩
    obtain ⟨fr6, hr6⟩ := LwStep _ fr5 hp5 hr5 H6 f6
    refine ⟨_, rfl, _, rfl, _, rfl, _, _, rfl, rfl, _, rfl, bodyStep n hn _ r _ _ (I.fr fr6 hp6 hr6 bR) fun p b r' H7 hba hok hsz f7 hp7 hr7 => ?_⟩
    refine ⟨_, rfl, _, rfl, _, rfl, _, rfl, _, rfl, _, _, rfl, rfl, _, rfl, bodyStep n hn H7 r' _ _ ((I.fr fr6 hp6 hr6 bR).fr f7 hp7 hr7 (by omega)) fun p2 b2 r2 H8 hba2 hok2 hsz2 f8 hp8 hr8 => ⟨by show 4 ≤ sizeLine; decide, fun t ht => ?_⟩⟩
    subst hn
    have sq := same_new ht (.tup [.str "when", vN i, .ref p, .ref p2])
    exact q _ (.when i b b2) r2 _ ⟨t, rfl, p, p2, upd_same, BA_mono (f8.tups.trans sq.tups) hba, BA_mono sq.tups hba2⟩ ⟨hi, hok, hok2⟩ (by show 1 + (szB (n + 1) b + szB (n + 1) b2) + r2 ≤ r + 1; omega) (((fr6.trans f7).trans f8).trans (Fr.same sq)) (hp8.same sq) (sq _ _ hr8)
  rw [decide_eq_false c7]
  refine iteF ?_
  -- loop, skip
  refine ⟨_, rfl, rfl, _, rfl, ?_⟩
  rw [dec_str]
  by_cases c8 : wd = "loop"
  · rw [decide_eq_true c8]
    obtain ⟨n, hn⟩ := hdeep (.inr (.inr (.inr c8)))
    refine iteT ⟨_, rfl, _, rfl, _, rfl, _, _, rfl, rfl, _, rfl, bodyStep n hn _ r _ _ I5 fun p b r' H7 hba hok hsz f7 hp7 hr7 => ⟨by show 2 ≤ sizeLine; decide, fun t ht => ?_⟩⟩
    subst hn
    have sq := same_new ht (.tup [.str "loop", .ref p])
    exact q _ (.loop b) r' _ ⟨t, rfl, p, upd_same, BA_mono sq.tups hba⟩ hok (by show 1 + szB (n + 1) b + r' ≤ r + 1; omega) ((fr5.trans f7).trans (Fr.same sq)) (hp7.same sq) (sq _ _ hr7)
  rw [decide_eq_false c8]
  refine iteF ⟨by show 1 ≤ sizeLine; decide, fun t ht => ?_⟩
  have sq := same_new ht (.tup [.str "skip"])
  exact q _ .skip r _ ⟨t, rfl, upd_same⟩ trivial (by show 1 + r ≤ r + 1; omega) (fr5.trans (Fr.same sq)) (hp5.same sq) (sq _ _ hr5)
theorem law_all (F : GFun K mg "_law_statement" st_law_statement f fd) {fB : Addr} {fdB : FuncData} (FB : GFun K mg "_law_body" st_law_body fB fdB) (T : Txt K w mg kd pw CP CF) (c_law_draw : Cal P w K mg base 1 "_law_draw" spDraw []) (c_law_pick : Cal P w K mg base 2 "_law_pick" (spPick K) []) :
    ∀ n, Cal P w K mg base (2 * n + 3) "_law_statement" (spLawStm n) [] ∧ Cal P w K mg base (2 * n + 4) "_law_body" (spLawBody n) []
  | 0 => by
    have b : Binds K fdB ["_law_pot_here", "_law_shape", "_law_deep", "_law_room"] [] := FB.fn.binds fun _ _ _ _ _ _ us hl => match us, hl with | [_, _, _, _], _ => rfl
    have c0 : Cal P w K mg base 2 "_law_body" (spLawBodyP 0) [] := cal_of FB b ⟨fun vs H Q E h => h.elim, fun A outer s H args us vs Q E _ _ _ _ h => h.elim⟩
    have c := ok_law_statement F T c_law_draw c_law_pick c0 (Nat.le_refl 2)
    exact ⟨c, ok_law_body FB T c_law_draw c (by omega)⟩
  | n + 1 => by
    have ih : Cal P w K mg base (2 * n + 4) "_law_body" (spLawBodyP (n + 1)) [] := (law_all F FB T c_law_draw c_law_pick n).2
    have c := ok_law_statement F T c_law_draw c_law_pick ih (by omega)
    exact ⟨c, ok_law_body FB T c_law_draw c (by omega)⟩
end
end Dp
namespace Dp
open PySem L2
open C8 (Cal Met Mak pe_c pe_mk pe_mt pe_mt0 pe_gc InsC call_isC)
structure DrawnOk (sh : Sh) (bodies : List (List Stm)) (th : List Nat) (m : Nat) : Prop where
  L : sh.L ≤ 2
  C : sh.C ≤ 2
  M1 : 1 ≤ sh.M
  M : sh.M ≤ 2
  P1 : 1 ≤ sh.P
  P : sh.P ≤ 3
  len : bodies.length = sh.P
  ok : ∀ b ∈ bodies, okB sh 3 b
  sz : ∀ b ∈ bodies, szB 3 b ≤ m
  t1 : 1 ≤ th.length
  t2 : th.length ≤ 2
  th : ∀ t ∈ th, t < sh.P
/-- what was drawn, in the heap -/
structure DrawnAt (H : Hp) (pt t sp ab at_ : Addr) (sh : Sh) (ps : List Addr) (bodies : List (List Stm)) (th : List Nat) : Prop where
  ht : H t = some (.tup [.ref sp, .ref ab, .ref at_])
  hsp : H sp = some (.tup [vN sh.L, vN sh.C, vN sh.M, vN sh.P])
  hab : H ab = some (.lst (ps.map V.ref))
  hps : Paired (BA H 3) ps bodies
  hat : H at_ = some (.lst (th.map vN))
  pot : PotAt H pt
  n1 : ab ≠ at_
  n2 : ab ≠ pt
  n3 : at_ ≠ pt
section
variable {P : Program} {w : World} {K : PySem.W.Frag} {mg : Str → Option Value} {base : Heap} {kd pw CP CF : Addr} {f : Addr} {fd : FuncData}
def spDrawn : Sp := fun vs H Q _ => ∃ (pt : Addr), vs = [.ref pt, vN 2, vN 6] ∧ PotAt H pt ∧
  ∀ (H' : Hp) (t sp ab at_ : Addr) (sh : Sh) (ps : List Addr) (bodies : List (List Stm)) (th : List Nat), DrawnAt H' pt t sp ab at_ sh ps bodies th → DrawnOk sh bodies th 6 → Q (.ref t) H'
abbrev st_law_drawn : Stmt := top 55
abbrev N_law_drawn : List Str := ["_law_pot_here", "_law_deep", "_law_most", "_law_shape", "_law_bodies", "_law_threads", "_law_procedure", "_law_thread"]
theorem sc_law_drawn : FnScope N_law_drawn ["_law_pot_here", "_law_deep", "_law_most"] (defScope st_law_drawn) := ⟨rfl, rfl, rfl, by decide +kernel, rfl, by decide +kernel, by decide +kernel⟩
theorem ok_law_drawn {k : Nat} (F : GFun K mg "_law_drawn" st_law_drawn f fd) (T : Txt K w mg kd pw CP CF) (c_law_draw : Cal P w K mg base 1 "_law_draw" spDraw []) (c_law_body : Cal P w K mg base k "_law_body" (spLawBody 2) []) (hk : 1 ≤ k) : Cal P w K mg base (k + 1) "_law_drawn" spDrawn [] := by
  have b : Binds K fd ["_law_pot_here", "_law_deep", "_law_most"] [] := F.fn.binds fun _ _ _ _ _ _ us hl => match us, hl with | [_, _, _], _ => rfl
  refine cal_of F b (F.fn.ok sc_law_drawn (fun vs H Q E h => ?_) (fun cdv A outer s H vs Q E hr h => ?_))
  · obtain ⟨_, rfl, _⟩ := h
    rfl
  obtain ⟨pt, rfl, hp, q⟩ := h
  refine ⟨_, ((pss_cons (ps_set (i := 3) sc_law_drawn.nd rfl (Or.inl rfl) (pe_tup (pa_cons (pe_c c_law_draw hr (by omega) (by rfl) (pa_cons (pv 0) (pa_cons pe_int pa_nil))) (pa_cons (pe_c c_law_draw hr (by omega) (by rfl) (pa_cons (pv 0) (pa_cons pe_int pa_nil))) (pa_cons (pe_op op_add pe_int (pe_c c_law_draw hr (by omega) (by rfl) (pa_cons (pv 0) (pa_cons pe_int pa_nil)))) (pa_cons (pe_op op_add pe_int (pe_c c_law_draw hr (by omega) (by rfl) (pa_cons (pv 0) (pa_cons pe_int pa_nil)))) pa_nil))))))
  (pss_cons (ps_par (i := 4) (j := 5) (by rfl) sc_law_drawn.nd rfl rfl (by decide) rfl rfl (pa_cons (pe_lst pa_nil) (pa_cons (pe_lst pa_nil) pa_nil)) (by rfl))
  (pss_cons (ps_for PassesOwn.never rfl (pi_range1 (by rfl) T.n_range (pa_cons (pe_ix ix_tup (pv 3) pe_int (fun _ _ => rfl)) pa_nil)) (pg_name (i := 6) sc_law_drawn.nd rfl (Or.inl rfl))
  (pss_one (ps_expr (pe_bm PySem.F.plainAttrs_list PySem.F.slot_list_append PySem.F.type_list_append mt_append (pv 4) (pa_cons (pe_c c_law_body hr (by omega) (by rfl) (pa_cons (pv 0) (pa_cons (pv 3) (pa_cons (pv 1) (pa_cons (pe_lst (pa_cons (pv 2) pa_nil)) pa_nil))))) pa_nil)))))
  (pss_cons (ps_for PassesOwn.never rfl (pi_range1 (by rfl) T.n_range (pa_cons (pe_op op_add pe_int (pe_c c_law_draw hr (by omega) (by rfl) (pa_cons (pv 0) (pa_cons pe_int pa_nil)))) pa_nil)) (pg_name (i := 7) sc_law_drawn.nd rfl (Or.inl rfl))
  (pss_one (ps_expr (pe_bm PySem.F.plainAttrs_list PySem.F.slot_list_append PySem.F.type_list_append mt_append (pv 5) (pa_cons (pe_c c_law_draw hr (by omega) (by rfl) (pa_cons (pv 0) (pa_cons (pe_ix ix_tup (pv 3) pe_int (fun _ _ => rfl)) pa_nil))) pa_nil)))))
  (pss_one (ps_ret (pe_tup (pa_cons (pv 3) (pa_cons (pv 4) (pa_cons (pv 5) pa_nil))))))))))), ?_⟩
  -- shape
  refine ⟨_, rfl, pt, 3, rfl, hp, by omega, by omega, fun sL H1 hL f1 hp1 => ?_⟩
  refine ⟨_, rfl, pt, 3, rfl, hp1, by omega, by omega, fun sC H2 hC f2 hp2 => ?_⟩
  refine ⟨_, rfl, pt, 2, rfl, hp2, by omega, by omega, fun sM H3 hM f3 hp3 => ?_⟩
  refine ⟨1, _, rfl, rfl, ?_⟩
  refine ⟨_, rfl, pt, 3, rfl, hp3, by omega, by omega, fun sP H4 hPr f4 hp4 => ?_⟩
  refine ⟨1, _, rfl, rfl, by show 4 ≤ sizeLine; decide, fun sp hsp => ?_⟩
  have s5 := same_new hsp (.tup [vN sL, vN sC, vN (1 + sM), vN (1 + sP)])
  have hsp5 : (upd H4 sp (.tup [vN sL, vN sC, vN (1 + sM), vN (1 + sP)])) sp = some (.tup [vN sL, vN sC, vN (1 + sM), vN (1 + sP)]) := upd_same
  have hp5 := hp4.same s5
  show tSeq _ _ _ _ (upd H4 sp (.tup [vN sL, vN sC, vN (1 + sM), vN (1 + sP)]))
  generalize upd H4 sp (.tup [vN sL, vN sC, vN (1 + sM), vN (1 + sP)]) = H5 at hsp5 hp5
  -- bodies, threads = ([], [])
  refine ⟨Nat.zero_le _, fun ab hab => ⟨Nat.zero_le _, fun at_ hat => ⟨_, _, rfl, ?_⟩⟩⟩
  have s6 := same_new hab (.lst [])
  have s7 := same_new hat (.lst [])
  have s67 := same_trans s6 s7
  have hsp7 := s67 _ _ hsp5
  have hp7 := hp5.same s67
  have hab7 : (upd (upd H5 ab (.lst [])) at_ (.lst [])) ab = some (.lst []) := s7 _ _ upd_same
  have hat7 : (upd (upd H5 ab (.lst [])) at_ (.lst [])) at_ = some (.lst []) := upd_same
  have n1 : ab ≠ at_ := ne_of_none upd_same hat
  have n2 : ab ≠ pt := by
    obtain ⟨ys, hy⟩ := hp5.ex
    exact (ne_of_none hy hab).symm
  have n3 : at_ ≠ pt := by
    obtain ⟨ys, hy⟩ := (hp5.same s6).ex
    exact (ne_of_none hy hat).symm
  generalize upd (upd H5 ab (.lst [])) at_ (.lst []) = H7 at hsp7 hp7 hab7 hat7
  -- the bodies
  refine ⟨_, rfl, sp, _, _, _, rfl, rfl, SqT.of hsp7, at_of (j := 3) rfl rfl, _, rfl, by omega, by omega, ?_⟩
  refine for_it (walk_range (lo := 0) (n := ((1 + sP : Nat) : Int).toNat)) (fun j σ H8 => ∃ (n6 : Option V) (ps : List Addr) (bodies : List (List Stm)), σ = [some (.ref pt), some (vN 2), some (vN 6), some (.ref sp), some (.ref ab), some (.ref at_), n6, none] ∧ H8 sp = some (.tup [vN sL, vN sC, vN (1 + sM), vN (1 + sP)]) ∧
    H8 ab = some (.lst (ps.map V.ref)) ∧ Paired (BA H8 3) ps bodies ∧ H8 at_ = some (.lst []) ∧ PotAt H8 pt ∧ bodies.length = j ∧ ∀ b ∈ bodies, okB ⟨sL, sC, 1 + sM, 1 + sP⟩ 3 b ∧ szB 3 b ≤ 6) ⟨none, [], [], rfl, hsp7, hab7, .nil, hat7, hp7, rfl, fun b hb => (nomatch hb)⟩ (fun _ _ _ _ _ => trivial) ?_ ?_
  · rintro j y σ H8 H8' hj ⟨n6, ps, bodies, rfl, hsp8, hab8, hps8, hat8, hp8, hl8, hok8⟩ ⟨rfl, rfl⟩
    refine ⟨_, rfl, .inl ⟨rfl, _, SqL.of hab8⟩, _, rfl, _, rfl, _, rfl, _, rfl, by show 1 ≤ sizeLine; decide, fun rm hrm => ?_⟩
    have s9 := same_new hrm (.lst [vN 6])
    have npr : pt ≠ rm := by
      obtain ⟨ys, hy⟩ := hp8.ex
      exact ne_of_none hy hrm
    refine ⟨pt, sp, rm, ⟨sL, sC, 1 + sM, 1 + sP⟩, 6, rfl, ⟨hp8.same s9, s9 _ _ hsp8, upd_same, npr, by show 1 ≤ 1 + sM; omega, by show 1 ≤ 1 + sP; omega, ⟨by show sL ≤ 1000; omega, by show sC ≤ 1000; omega, by show 1 + sM ≤ 1000; omega, by show 1 + sP ≤ 1000; omega, by omega⟩⟩, fun p b r' H9 hba hok hsz f9 hp9 hr9 => ?_⟩
    have nabr : ab ≠ rm := ne_of_none hab8 hrm
    have natr : at_ ≠ rm := ne_of_none hat8 hrm
    have hab9 := f9.mem (s9 _ _ hab8) (by simp; exact ⟨n2, nabr⟩)
    have hat9 := f9.mem (s9 _ _ hat8) (by simp; exact ⟨n3, natr⟩)
    have t10 : Tups H9 (upd H9 ab (.lst (ps.map V.ref ++ [.ref p]))) := tups_lst hab9
    have hlen : ps.length = bodies.length := paired_len hps8
    refine ⟨ab, _, _, rfl, rfl, hab9, lt_sizeLine (by rw [List.length_map]; omega), ?_⟩
    refine ⟨_, ps ++ [p], bodies ++ [b], rfl, t10 _ _ (f9.tups _ _ (s9 _ _ hsp8)), ?_, paired_add (paired_mono (fun _ _ z => BA_mono ((s9.tups.trans f9.tups).trans t10) z) hps8) (BA_mono t10 hba), ?_, ?_, ?_, ?_⟩
    · rw [upd_same, List.map_append]; rfl
    · rw [upd_ne n1.symm]; exact hat9
    · obtain ⟨a, b, e, z⟩ := hp9
      exact ⟨a, b, by rw [upd_ne n2.symm]; exact e, z⟩
    · rw [List.length_append, List.length_singleton, hl8]
    · intro b' hb'
      rcases List.mem_append.mp hb' with hb' | hb'
      · exact hok8 b' hb'
      · rw [List.mem_singleton.mp hb']
        exact ⟨hok, by have hsz : szB 3 b + r' ≤ 6 := hsz; omega⟩
  rintro σ H8 ⟨n6, ps, bodies, rfl, hsp8, hab8, hps8, hat8, hp8, hl8, hok8⟩
  have hl8 : bodies.length = 1 + sP := hl8
  -- the threads
  refine ⟨_, rfl, pt, 2, rfl, hp8, by omega, by omega, fun tI H9 hI f9 hp9 => ⟨1, _, rfl, rfl, _, rfl, by omega, by omega, ?_⟩⟩
  have hsp9 := f9.tups _ _ hsp8
  have hab9 := f9.mem hab8 (by simpa using n2)
  have hat9 := f9.mem hat8 (by simpa using n3)
  have hps9 : Paired (BA H9 3) ps bodies := paired_mono (fun _ _ z => BA_mono f9.tups z) hps8
  refine for_it (walk_range (lo := 0) (n := (1 + (tI : Int)).toNat)) (fun j σ H10 => ∃ (n7 : Option V) (th : List Nat), σ = [some (.ref pt), some (vN 2), some (vN 6), some (.ref sp), some (.ref ab), some (.ref at_), n6, n7] ∧ H10 sp = some (.tup [vN sL, vN sC, vN (1 + sM), vN (1 + sP)]) ∧
    H10 ab = some (.lst (ps.map V.ref)) ∧ Paired (BA H10 3) ps bodies ∧ H10 at_ = some (.lst (th.map vN)) ∧ PotAt H10 pt ∧ th.length = j ∧ ∀ t ∈ th, t < 1 + sP) ⟨none, [], rfl, hsp9, hab9, hps9, hat9, hp9, rfl, fun b hb => (nomatch hb)⟩ (fun _ _ _ _ _ => trivial) ?_ ?_
  · rintro j y σ H10 H10' hj ⟨n7, th, rfl, hsp10, hab10, hps10, hat10, hp10, hl10, hth10⟩ ⟨rfl, rfl⟩
    refine ⟨_, rfl, .inl ⟨rfl, _, SqL.of hat10⟩, _, rfl, _, rfl, sp, _, _, _, rfl, rfl, SqT.of hsp10, at_of (j := 3) rfl rfl, pt, 1 + sP, rfl, hp10, by omega, by omega, fun t H11 ht f11 hp11 => ?_⟩
    have hab11 := f11.mem hab10 (by simpa using n2)
    have hat11 := f11.mem hat10 (by simpa using n3)
    have t12 : Tups H11 (upd H11 at_ (.lst (th.map vN ++ [vN t]))) := tups_lst hat11
    refine ⟨at_, _, _, rfl, rfl, hat11, lt_sizeLine (by rw [List.length_map]; omega), ?_⟩
    refine ⟨_, th ++ [t], rfl, t12 _ _ (f11.tups _ _ hsp10), ?_, paired_mono (fun _ _ z => BA_mono (f11.tups.trans t12) z) hps10, ?_, ?_, ?_, ?_⟩
    · rw [upd_ne n1]; exact hab11
    · rw [upd_same, map_vN_add]
    · obtain ⟨a, b, e, z⟩ := hp11
      exact ⟨a, b, by rw [upd_ne n3.symm]; exact e, z⟩
    · rw [List.length_append, List.length_singleton, hl10]
    · intro t' ht'
      rcases List.mem_append.mp ht' with ht' | ht'
      · exact hth10 t' ht'
      · rw [List.mem_singleton.mp ht']; exact ht
  rintro σ H10 ⟨n7, th, rfl, hsp10, hab10, hps10, hat10, hp10, hl10, hth10⟩
  refine ⟨_, rfl, _, rfl, _, rfl, by show 3 ≤ sizeLine; decide, fun t ht => ?_⟩
  have sq := same_new ht (.tup [.ref sp, .ref ab, .ref at_])
  refine q _ t sp ab at_ ⟨sL, sC, 1 + sM, 1 + sP⟩ ps bodies th ⟨upd_same, sq _ _ hsp10, sq _ _ hab10, paired_mono (fun _ _ z => BA_mono sq.tups z) hps10, sq _ _ hat10, hp10.same sq, n1, n2, n3⟩ ⟨by show sL ≤ 2; omega, by show sC ≤ 2; omega, by show 1 ≤ 1 + sM; omega, by show 1 + sM ≤ 2; omega, by show 1 ≤ 1 + sP; omega, by show 1 + sP ≤ 3; omega, hl8, fun b hb => (hok8 b hb).1, fun b hb => (hok8 b hb).2, by omega, by omega, hth10⟩
def spMade (CP : Addr) : Sp := fun vs H Q _ => ∃ (pt t sp ab at_ : Addr) (sh : Sh) (ps : List Addr) (bodies : List (List Stm)) (th : List Nat), vs = [.ref t] ∧ DrawnAt H pt t sp ab at_ sh ps bodies th ∧ DrawnOk sh bodies th 7 ∧
  ∀ (H' : Hp) (x : Addr), Same H H' → ProgAt CP H' x 3 bodies th → Q (.ref x) H'
theorem sum_le7 {d m : Nat} : ∀ {l : List (List Stm)}, (∀ b ∈ l, szB d b ≤ m) → (l.map (szB d)).sum ≤ m * l.length
  | [], _ => Nat.zero_le _
  | b :: l, h => by
    have h1 := h b (List.mem_cons_self ..)
    have h2 := sum_le7 fun b hb => h b (List.mem_cons_of_mem _ hb)
    rw [List.map_cons, List.sum_cons, List.length_cons, Nat.mul_succ]
    omega
abbrev st_law_made : Stmt := top 56
abbrev N_law_made : List Str := ["_law_drawn_here", "_law_shape", "_law_bodies", "_law_threads"]
theorem sc_law_made : FnScope N_law_made ["_law_drawn_here"] (defScope st_law_made) := ⟨rfl, rfl, rfl, by decide +kernel, rfl, by decide +kernel, by decide +kernel⟩
theorem ok_law_made {k : Nat} (F : GFun K mg "_law_made" st_law_made f fd) (T : Txt K w mg kd pw CP CF) (c_Program : Mak P w K mg base k "Program" CP (spProgInit CP 3) []) : Cal P w K mg base (k + 2) "_law_made" (spMade CP) [] := by
  have b : Binds K fd ["_law_drawn_here"] [] := F.fn.binds fun _ _ _ _ _ _ us hl => match us, hl with | [_], _ => rfl
  refine cal_of F b (F.fn.ok sc_law_made (fun vs H Q E h => ?_) (fun cdv A outer s H vs Q E hr h => ?_))
  · obtain ⟨_, _, _, _, _, _, _, _, _, rfl, _⟩ := h
    rfl
  obtain ⟨pt, t, sp, ab, at_, sh, ps, bodies, th, rfl, D, O, q⟩ := h
  refine ⟨_, ((pss_cons (ps_asg (pv 0) (pg_tup rfl (pgs_cons (pg_name (i := 1) sc_law_made.nd rfl (Or.inl rfl)) (pgs_cons (pg_name (i := 2) sc_law_made.nd rfl (Or.inl rfl)) (pgs_cons (pg_name (i := 3) sc_law_made.nd rfl (Or.inl rfl)) pgs_nil)))))
  (pss_one (ps_ret (pe_mk c_Program hr (by omega) (by rfl) (pa_cons (pe_ix ix_tup (pv 1) pe_int (fun _ _ => rfl)) (pa_cons (pe_ix ix_tup (pv 1) pe_int (fun _ _ => rfl)) (pa_cons (pe_ix ix_tup (pv 1) pe_int (fun _ _ => rfl)) (pa_cons (pv 2) (pa_cons (pv 3) pa_nil)))))))))), ?_⟩
  refine ⟨_, rfl, t, _, rfl, SqT.of D.ht, rfl, _, _, rfl, _, _, rfl, _, _, rfl, rfl, ?_⟩
  refine ⟨_, rfl, sp, _, _, _, rfl, rfl, SqT.of D.hsp, at_of (j := 0) rfl rfl, _, rfl, sp, _, _, _, rfl, rfl, SqT.of D.hsp, at_of (j := 1) rfl rfl, _, rfl, sp, _, _, _, rfl, rfl, SqT.of D.hsp, at_of (j := 2) rfl rfl, _, rfl, _, rfl, fun x dx hx hdx hne => ?_⟩
  have s1 : Same H (upd (upd H dx (.own x)) x (.ins CP dx [])) := fun b o e => by
    rw [upd_ne (ne_of_none e hx), upd_ne (ne_of_none e hdx)]
    exact e
  have hsum := sum_le7 (d := 3) O.sz
  have hP3 := O.P
  have hlen := O.len
  have hmul : 7 * bodies.length ≤ 7 * 3 := Nat.mul_le_mul_left _ (by omega)
  refine ⟨x, dx, sh.L, sh.C, sh.M, ab, at_, ps, bodies, th, rfl, upd_same, s1 _ _ D.hab, paired_mono (fun _ _ z => BA_mono s1.tups z) D.hps, s1 _ _ D.hat, ⟨by have := O.L; omega, by have := O.C; omega, O.M1, by have := O.M; omega, by have := O.P1; omega, by omega, fun b hb => ⟨?_, by have := O.sz b hb; omega⟩, by omega, O.t1, by have := O.t2; omega, fun t ht => by rw [hlen]; exact O.th t ht, by omega⟩, fun H' hk hPr => ⟨rfl, ?_⟩⟩
  · have e : (⟨sh.L, sh.C, sh.M, bodies.length⟩ : Sh) = sh := by rw [hlen]
    rw [e]
    exact O.ok b hb
  · exact q H' x (fun c o e => hk c o (s1 _ _ e) (ne_of_none e hx)) hPr
end
end Dp
namespace Dp
open PySem L2
open C8 (Cal Met Mak pe_c pe_mk pe_mt pe_mt0 pe_gc InsC call_isC)
/-! ### the law's flow -/
def kvsF (am ao ap ae : Addr) : List (Key × V) := [(.inr "moves", .ref am), (.inr "owners", .ref ao), (.inr "paths", .ref ap), (.inr "ends", .ref ae)]
theorem kf_moves (am ao ap ae : Addr) : valV (kvsF am ao ap ae) (.inr "moves") = some (.ref am) := by kernel_rfl
theorem kf_owners (am ao ap ae : Addr) : valV (kvsF am ao ap ae) (.inr "owners") = some (.ref ao) := by kernel_rfl
theorem kf_paths (am ao ap ae : Addr) : valV (kvsF am ao ap ae) (.inr "paths") = some (.ref ap) := by kernel_rfl
theorem kf_ends (am ao ap ae : Addr) : valV (kvsF am ao ap ae) (.inr "ends") = some (.ref ae) := by kernel_rfl
def LFIn (H : Hp) (fl am ao ap ae : Addr) : Prop := H fl = some (.dK (kvsF am ao ap ae))
theorem LFIn.moves {H : Hp} {fl am ao ap ae : Addr} (h : LFIn H fl am ao ap ae) : DGet H fl (.str "moves") (some (.ref am)) := by
  have z := DGet.k (k := (.inr "moves" : Key)) h
  rw [kf_moves] at z; exact z
theorem LFIn.owners {H : Hp} {fl am ao ap ae : Addr} (h : LFIn H fl am ao ap ae) : DGet H fl (.str "owners") (some (.ref ao)) := by
  have z := DGet.k (k := (.inr "owners" : Key)) h
  rw [kf_owners] at z; exact z
theorem LFIn.paths {H : Hp} {fl am ao ap ae : Addr} (h : LFIn H fl am ao ap ae) : DGet H fl (.str "paths") (some (.ref ap)) := by
  have z := DGet.k (k := (.inr "paths" : Key)) h
  rw [kf_paths] at z; exact z
theorem LFIn.ends {H : Hp} {fl am ao ap ae : Addr} (h : LFIn H fl am ao ap ae) : DGet H fl (.str "ends") (some (.ref ae)) := by
  have z := DGet.k (k := (.inr "ends" : Key)) h
  rw [kf_ends] at z; exact z
theorem LFIn.same {H H' : Hp} {fl am ao ap ae : Addr} (h : LFIn H fl am ao ap ae) (s : Same H H') : LFIn H' fl am ao ap ae := s _ _ h
theorem LFIn.fr {P : Program} {w : World} {H H' : Hp} {fl am ao ap ae : Addr} {st : LS} (h : LFIn H fl am ao ap ae) (l : LayAt P w H am ao ap st) (f : Fr [am, ao, ap] H H') : LFIn H' fl am ao ap ae := by
  obtain ⟨rs, m1, _⟩ := l.mv
  obtain ⟨φ, hφ⟩ := l.pa.ext
  refine f.but _ _ h ?_
  intro z
  have z' : fl = am ∨ fl = ao ∨ fl = ap := by simpa using z
  rcases z' with z | z | z
  · exact ne_of h m1 (by intro z; cases z) z
  · exact ne_of h l.own (by intro z; cases z) z
  · exact ne_of h hφ (by intro z; cases z) z
theorem hu1_of {A : Around} {k : Nat} (hr : Room k A) : A.units + 1 < cLine := by
  have := hr.un
  omega
theorem mv_at {P : Program} {w : World} {H : Hp} {am ao ap p : Addr} {st : LS} {m : Mv} (L : LayAt P w H am ao ap st) (hw : st.wt ≤ 200000) (hp : H p = none) :
    ∃ ys : List V, (upd H p (.tup (Mv.tup m))) am = some (.lst ys) ∧ ys.length < sizeLine ∧ LayAt P w (upd (upd H p (.tup (Mv.tup m))) am (.lst (ys ++ [.ref p]))) am ao ap (st.move m) ∧ Fr [am, ao, ap] H (upd (upd H p (.tup (Mv.tup m))) am (.lst (ys ++ [.ref p]))) := by
  obtain ⟨rs, h1, h2⟩ := L.mv
  have hlen : st.mv.length ≤ 200000 := by unfold LS.wt at hw; omega
  have hrs := paired_len h2
  have s1 := same_new hp (.tup (Mv.tup m))
  have z := (L.same s1).move (m := m) (p := p) (rs := rs) upd_same (s1 _ _ h1) (paired_mono (fun _ _ e => s1 _ _ e) h2)
  exact ⟨rs.map V.ref, s1 _ _ h1, lt_sizeLine (by rw [List.length_map]; omega), z.1, (Fr.same s1).trans z.2⟩
theorem sql_mv {P : Program} {w : World} {K : PySem.W.Frag} {H : Hp} {am ao ap : Addr} {st : LS} (L : LayAt P w H am ao ap st) : ∃ ys, SqL K H am ys := let ⟨_, h1, _⟩ := L.mv; ⟨_, SqL.of h1⟩
section
variable {P : Program} {w : World} {K : PySem.W.Frag} {mg : Str → Option Value} {base : Heap} {kd pw CP CF : Addr} {f : Addr} {fd : FuncData}
def spLNext (P : Program) (w : World) : Sp := fun vs H Q _ => ∃ (fl am ao ap ae : Addr) (pr : Nat) (st : LS), vs = [.ref fl, vN pr] ∧ LFIn H fl am ao ap ae ∧ LayAt P w H am ao ap st ∧ st.wt ≤ 200000 ∧
  ∀ H', (∀ l, LayAt P w H' am ao ap (st.next pr l)) → Fr [am, ao, ap] H H' → Q (vN st.own.length) H'
abbrev st_law_next : Stmt := top 57
abbrev N_law_next : List Str := ["_law_flow_here", "_law_procedure"]
theorem sc_law_next : FnScope N_law_next ["_law_flow_here", "_law_procedure"] (defScope st_law_next) := ⟨rfl, rfl, rfl, by decide +kernel, rfl, by decide +kernel, by decide +kernel⟩
theorem ok_law_next (F : GFun K mg "_law_next" st_law_next f fd) (T : Txt K w mg kd pw CP CF) : Cal P w K mg base 1 "_law_next" (spLNext P w) [] := by
  have b : Binds K fd ["_law_flow_here", "_law_procedure"] [] := F.fn.binds fun _ _ _ _ _ _ us hl => match us, hl with | [_, _], _ => rfl
  refine cal_of F b (F.fn.ok sc_law_next (fun vs H Q E h => ?_) (fun cdv A outer s H vs Q E hr h => ?_))
  · obtain ⟨_, _, _, _, _, _, _, rfl, _⟩ := h
    rfl
  obtain ⟨fl, am, ao, ap, ae, pr, st, rfl, hf, L, hw, q⟩ := h
  have hlen : st.own.length ≤ 200000 := by unfold LS.wt at hw; omega
  have hu := hu1_of hr
  refine ⟨_, ((pss_cons (ps_expr (pe_bm PySem.F.plainAttrs_list PySem.F.slot_list_append PySem.F.type_list_append mt_append (pe_dget hu (pv 0) pe_str (fun _ _ => rfl)) (pa_cons (pv 1) pa_nil)))
  (pss_one (ps_ret (pe_op op_sub (pe_callB call_len_seq (by rfl) T.n_len bt_len (pa_cons (pe_dget hu (pv 0) pe_str (fun _ _ => rfl)) pa_nil)) pe_int))))), ?_⟩
  refine ⟨_, rfl, fl, _, rfl, hf.owners, .inl ⟨rfl, _, SqL.of L.own⟩, _, rfl, ao, _, _, rfl, rfl, L.own, lt_sizeLine (by rw [List.length_map]; omega), ?_⟩
  have nx : fl ≠ ao := ne_of hf L.own (by intro z; cases z)
  have hf' : LFIn (upd H ao (.lst (st.own.map vN ++ [vN pr]))) fl am ao ap ae := by
    show _ = _
    rw [upd_ne nx]; exact hf
  refine ⟨_, rfl, fl, _, rfl, hf'.owners, ao, _, rfl, .inl (SqL.of upd_same), _, _, rfl, rfl, ?_⟩
  have e : st.own.map vN ++ [vN pr] = (st.own ++ [pr]).map vN := by rw [List.map_append]; rfl
  have e2 : (((st.own.map vN ++ [vN pr]).length : Nat) : Int) - 1 = (st.own.length : Int) := by
    rw [List.length_append, List.length_map, List.length_singleton]
    omega
  show Q (.int ((((st.own.map vN ++ [vN pr]).length : Nat) : Int) - 1)) _
  rw [e2, e]
  exact q _ (fun l => L.next pr l) (L.nextFr pr)
structure LLay (P : Program) (w : World) (H : Hp) (fl am ao ap ae : Addr) (st : LS) (room : Nat) (pt : Addr) (path : List Nat) : Prop where
  lf : LFIn H fl am ao ap ae
  la : LayAt P w H am ao ap st
  wt : st.wt + room ≤ 200002
  pt : H pt = some (.tup (path.map vN))
def spLLayBody (P : Program) (w : World) (d : Nat) : Sp := fun vs H Q _ => ∃ (E : List Nat) (r : Prop) (fl am ao ap ae : Addr) (st : LS) (pt bp : Addr) (pr : Nat) (path : List Nat) (near far : Nat) (b : List Stm), vs = [.ref fl, vN pr, .ref bp, vN near, vN far, .ref pt] ∧
  LLay P w H fl am ao ap ae st (9 * szB d b + 3) pt path ∧ BA H d bp b ∧ path.length + 2 * d + 1 ≤ 1000 ∧
  ∀ H', LayAt P w H' am ao ap (layB E pr d path near far r b st) → Fr [am, ao, ap] H H' → Q .non H'
def spLLay (P : Program) (w : World) (d : Nat) : Sp := fun vs H Q _ => ∃ (E : List Nat) (r : Prop) (fl am ao ap ae : Addr) (st : LS) (pt : Addr) (v : V) (pr : Nat) (path : List Nat) (near far : Nat) (s : Stm), vs = [.ref fl, vN pr, v, vN near, vN far, .ref pt] ∧
  LLay P w H fl am ao ap ae st (9 * szS d s) pt path ∧ SA H d v s ∧ path.length + 2 * d ≤ 1000 ∧
  ∀ H', LayAt P w H' am ao ap (layS E pr d r s path near far st) → Fr [am, ao, ap] H H' → Q .non H'
abbrev st_law_lay_body : Stmt := top 58
abbrev N_law_lay_body : List Str := ["_law_flow_here", "_law_procedure", "_law_body_here", "_law_near", "_law_far", "_law_path", "_law_at", "_law_statement_here", "_law_to"]
theorem sc_law_lay_body : FnScope N_law_lay_body ["_law_flow_here", "_law_procedure", "_law_body_here", "_law_near", "_law_far", "_law_path"] (defScope st_law_lay_body) := ⟨rfl, rfl, rfl, by decide +kernel, rfl, by decide +kernel, by decide +kernel⟩
theorem ok_law_lay_body {d k : Nat} (F : GFun K mg "_law_lay_body" st_law_lay_body f fd) (T : Txt K w mg kd pw CP CF) (c_law_next : Cal P w K mg base 1 "_law_next" (spLNext P w) []) (c_law_lay : Cal P w K mg base k "_law_lay" (spLLay P w d) []) (hk : 1 ≤ k) :
    Cal P w K mg base (k + 1) "_law_lay_body" (spLLayBody P w d) [] := by
  have b : Binds K fd ["_law_flow_here", "_law_procedure", "_law_body_here", "_law_near", "_law_far", "_law_path"] [] := F.fn.binds fun _ _ _ _ _ _ us hl => match us, hl with | [_, _, _, _, _, _], _ => rfl
  refine cal_of F b (F.fn.ok sc_law_lay_body (fun vs H Q E h => ?_) (fun cdv A outer s H vs Q E hr h => ?_))
  · obtain ⟨_, _, _, _, _, _, _, _, _, _, _, _, _, _, _, rfl, _⟩ := h
    rfl
  obtain ⟨En, r, fl, am, ao, ap, ae, st, pt, bp, pr, path, near, far, bd, rfl, I, hB, hpd, q⟩ := h
  have hu9 := hu9_of hr
  have hu := hu1_of hr
  obtain ⟨xs, hbp, hx⟩ := hB
  have hlen := paired_len hx
  have hwt := I.wt
  refine ⟨_, ((pss_cons (ps_if (pt_cmpR op_eq (pe_callB call_len_seq (by rfl) T.n_len bt_len (pa_cons (pv 2) pa_nil)) pe_int (nomark _)) (pss_one (ps_expr (pe_bm PySem.F.plainAttrs_list PySem.F.slot_list_append PySem.F.type_list_append mt_append (pe_dget hu (pv 0) pe_str (fun _ _ => rfl)) (pa_cons (pe_tup (pa_cons (pv 3) (pa_cons pe_str (pa_cons pe_non (pa_cons (pv 4) pa_nil))))) pa_nil)))) pss_nil)
  (pss_one (ps_for PassesOwn.never rfl (pi_enumT (by rfl) T.n_enumerate (pa_cons (pv 2) pa_nil)) (pg_tup rfl (pgs_cons (pg_name (i := 6) sc_law_lay_body.nd rfl (Or.inl rfl)) (pgs_cons (pg_name (i := 7) sc_law_lay_body.nd rfl (Or.inl rfl)) pgs_nil)))
  (pss_cons (ps_set (i := 8) sc_law_lay_body.nd rfl (Or.inl rfl) (pe_ifExp (pt_cmpR op_eq (pv 6) (pe_op op_sub (pe_callB call_len_seq (by rfl) T.n_len bt_len (pa_cons (pv 2) pa_nil)) pe_int) (nomark _)) (pv 4) (pe_c c_law_next hr (by omega) (by rfl) (pa_cons (pv 0) (pa_cons (pv 1) pa_nil)))))
  (pss_cons (ps_nput hu9 (pe_dget hu (pv 0) pe_str (fun _ _ => rfl)) (pe_tup (pa_cons (pv 1) (pa_cons (pe_op op_catB (pv 5) (pe_tup (pa_cons (pv 6) pa_nil))) pa_nil))) (pv 3) rfl)
  (pss_cons (ps_expr (pe_c c_law_lay hr (by omega) (by rfl) (pa_cons (pv 0) (pa_cons (pv 1) (pa_cons (pv 7) (pa_cons (pv 3) (pa_cons (pv 8) (pa_cons (pe_op op_catB (pv 5) (pe_tup (pa_cons (pv 6) pa_nil))) pa_nil))))))))
  (pss_one (ps_set (i := 3) sc_law_lay_body.nd rfl (Or.inl rfl) (pv 8)))))))))), ?_⟩
  -- if len(body) == 0
  refine ⟨_, rfl, bp, _, rfl, .inr (SqT.of hbp), rfl, _, rfl, ?_⟩
  apply join_if (fun σ' H' => ∃ st0 : LS, σ' = [some (.ref fl), some (vN pr), some (.ref bp), some (vN near), some (vN far), some (.ref pt), none, none, none] ∧ Fr [am, ao, ap] H H' ∧ LayAt P w H' am ao ap st0 ∧ st0.wt + 9 * szB d bd ≤ 200000 ∧
    layList (layS En pr d) (canS En d) pr far path r bd 0 near st0 = layB En pr d path near far r bd st)
  · intro mn
    by_cases hb0 : ¬ bd = []
    · have hx0 : xs.length ≠ 0 := fun z => hb0 (List.eq_nil_of_length_eq_zero (by omega))
      rw [decide_eq_false (fun z => hx0 (by have := V.int.inj z; omega))]
      refine iteF ?_
      refine mn _ _ ⟨st, rfl, Fr.refl _ _, I.la, by omega, ?_⟩
      show _ = layBody _ _ _ _ _ _ _ _ _
      unfold layBody
      rw [if_neg hb0]
    · have hb0 : bd = [] := Classical.not_not.mp hb0
      subst hb0
      have hx0 : xs.length = 0 := hlen
      rw [decide_eq_true (congrArg V.int (by rw [hx0]; rfl))]
      refine iteT ⟨_, rfl, fl, _, rfl, I.lf.moves, .inl ⟨rfl, sql_mv I.la⟩, _, rfl, _, rfl, by show 4 ≤ sizeLine; decide, fun p hp => ?_⟩
      obtain ⟨ys, g1, g2, L1, f1⟩ := mv_at (m := ⟨near, "step", .non, far⟩) I.la (by omega) hp
      refine ⟨am, ys, _, rfl, rfl, g1, g2, ?_⟩
      refine mn _ _ ⟨_, rfl, f1, L1, by rw [wt_move]; show st.wt + 1 + 9 * 0 ≤ 200000; omega, ?_⟩
      show _ = layBody _ _ _ _ _ _ _ _ _
      unfold layBody
      rw [if_pos rfl]
  rintro σ' H1 ⟨st0, rfl, fr0, L0, hw0, hfin⟩
  have hbp1 := fr0.tups _ _ hbp
  refine ⟨_, rfl, bp, xs, rfl, SqT.of hbp1, ?_⟩
  refine for_it (walk_enumT (K := K) (a := bp) (xs := xs)) (fun i σ H2 => ∃ (n6 n7 n8 : Option V) (sti : LS) (ri : Prop) (ni : Nat), σ = [some (.ref fl), some (vN pr), some (.ref bp), some (vN ni), some (vN far), some (.ref pt), n6, n7, n8] ∧
    Fr [am, ao, ap] H H2 ∧ LayAt P w H2 am ao ap sti ∧ sti.wt + 9 * szB d (bd.drop i) ≤ 200000 ∧ layList (layS En pr d) (canS En d) pr far path ri (bd.drop i) i ni sti = layB En pr d path near far r bd st) ?_ ?_ ?_ ?_
  · exact ⟨none, none, none, st0, r, near, rfl, fr0, L0, hw0, hfin⟩
  · rintro i σ H2 hi ⟨_, _, _, sti, ri, ni, rfl, fr, _⟩
    exact SqT.of (fr.tups _ _ hbp)
  · rintro i y σ H2 H3 hi ⟨n6, n7, n8, sti, ri, ni, rfl, fr, L, hw, hf⟩ ⟨Tq, y1, y2, rfl, hT, rfl, e1, e2⟩
    cases e1
    obtain ⟨sm, hsm, hsa⟩ := paired_at hx e2
    have hi' : i < bd.length := (List.getElem?_eq_some_iff.mp hsm).1
    have ed := drop_cons hsm
    rw [ed] at hf hw
    have hw' : sti.wt + 9 * (szS d sm + szB d (bd.drop (i + 1))) ≤ 200000 := hw
    have s3 := same_new hT (.tup [.int (i : Nat), y2])
    have fr3 := fr.trans (Fr.same s3)
    have L3 := L.same s3
    have hlf := I.lf.fr I.la fr3
    refine ⟨Tq, _, rfl, SqT.of upd_same, rfl, _, _, rfl, _, _, rfl, rfl, ?_⟩
    generalize upd H2 Tq (.tup [.int (i : Nat), y2]) = H4 at fr3 L3 hlf
    -- to
    refine ⟨_, rfl, _, rfl, bp, _, rfl, .inr (SqT.of (fr3.tups _ _ hbp)), _, _, rfl, rfl, rfl, _, rfl, ?_⟩
    apply join_if (fun σ' H' => ∃ (to : Nat) (stx : LS) (r' : Prop), σ' = [some (.ref fl), some (vN pr), some (.ref bp), some (vN ni), some (vN far), some (.ref pt), some (.int (i : Nat)), some y2, some (vN to)] ∧ Fr [am, ao, ap] H H' ∧ LayAt P w H' am ao ap stx ∧ stx.wt ≤ sti.wt + 1 ∧
      layList (layS En pr d) (canS En d) pr far path r' (bd.drop (i + 1)) (i + 1) to (layS En pr d ri sm (path ++ [i]) ni to (stx.path (pr, path ++ [i]) ni)) = layB En pr d path near far r bd st)
    · intro mn
      by_cases hrest : ¬ bd.drop (i + 1) = []
      · obtain ⟨t, l, hrest⟩ := List.exists_cons_of_ne_nil hrest
        have hl1 : i + 1 < bd.length := by
          have := congrArg List.length hrest
          rw [List.length_drop, List.length_cons] at this
          omega
        rw [decide_eq_false (fun z => by have := V.int.inj z; rw [hlen] at this; omega)]
        rw [hrest] at hf
        refine iteF ⟨_, rfl, _, rfl, fl, am, ao, ap, ae, pr, sti, rfl, hlf, L3, by omega, fun H5 L5 f5 => ?_⟩
        exact mn _ _ ⟨sti.own.length, _, (ri ∧ canS En d sm = true), rfl, fr3.trans f5, L5 (ri ∧ canS En d sm = true), by rw [wt_next]; omega, by rw [hrest]; exact hf⟩
      · have hrest := Classical.not_not.mp hrest
        have hl1 : bd.length = i + 1 := by
          have := congrArg List.length hrest
          rw [List.length_drop] at this
          have h0 : ([] : List Stm).length = 0 := rfl
          omega
        rw [decide_eq_true (congrArg V.int (by rw [hlen, hl1]; omega))]
        rw [hrest] at hf
        refine iteT ⟨_, rfl, ?_⟩
        exact mn _ _ ⟨far, sti, True, rfl, fr3, L3, by omega, by rw [hrest]; exact hf⟩
    rintro σ' H5 ⟨to, stx, r', rfl, fr5, L5, hwx, hfx⟩
    have hlf5 := I.lf.fr I.la fr5
    have hpt5 := fr5.tups _ _ I.pt
    have hszp := szS_pos (d := d) (s := sm)
    have hpl : path.length + 1 ≤ sizeLine := Nat.le_of_lt (lt_sizeLine (by omega))
    -- flow['paths'][(procedure, path + (at,))] = near
    refine ⟨_, rfl, _, rfl, fl, _, rfl, hlf5.paths, _, rfl, _, rfl, _, rfl, by show 1 ≤ sizeLine; decide, fun p1 hp1 => ?_⟩
    have s1 := same_new hp1 (.tup [.int (i : Int)])
    refine ⟨pt, p1, _, _, rfl, rfl, SqT.of (s1 _ _ hpt5), upd_same, (fun z => by cases z), (by rw [List.length_map]; exact hpl), fun q1 H6 s2 hq1 => ?_⟩
    rw [map_vN_snoc] at hq1
    refine ⟨by show 2 ≤ sizeLine; decide, fun p3 hp3 => ?_⟩
    have s3' := same_new hp3 (.tup [vN pr, .ref q1])
    have s13 := same_trans s1 (same_trans s2 s3')
    have L6 := L5.same s13
    refine ⟨ap, p3, q1, (pr, path ++ [i]), ni, _, _, rfl, rfl, rfl, L6.pa, lt_sizeLine (by unfold LS.wt at hwx; unfold LS.wt at hw'; omega), upd_same, s3' _ _ hq1, fun φ dn => ?_⟩
    have z := L6.path dn
    have fr6 : Fr [am, ao, ap] H (upd (upd H6 p3 (.tup [vN pr, .ref q1])) ap (.ext φ)) := (fr5.trans (Fr.same s13)).trans z.2
    have L7 := z.1
    generalize upd (upd H6 p3 (.tup [vN pr, .ref q1])) ap (.ext φ) = H7 at L7 fr6
    -- lay(flow, procedure, statement, near, to, path + (at,))
    refine ⟨_, rfl, _, rfl, _, rfl, _, rfl, _, rfl, _, rfl, _, rfl, by show 1 ≤ sizeLine; decide, fun p4 hp4 => ?_⟩
    have s4 := same_new hp4 (.tup [.int (i : Int)])
    refine ⟨pt, p4, _, _, rfl, rfl, SqT.of (s4 _ _ (fr6.tups _ _ I.pt)), upd_same, (fun z => by cases z), (by rw [List.length_map]; exact hpl), fun q5 H8 s5 hq5 => ?_⟩
    rw [map_vN_snoc] at hq5
    have s45 := same_trans s4 s5
    have fr8 := fr6.trans (Fr.same s45)
    refine ⟨En, ri, fl, am, ao, ap, ae, _, q5, y2, pr, path ++ [i], ni, to, sm, rfl, ⟨I.lf.fr I.la fr8, L7.same s45, by rw [wt_path]; omega, hq5⟩, SA_mono fr8.tups d hsa, by rw [List.length_append, List.length_singleton]; omega, fun H9 L9 f9 => ?_⟩
    have hg := layS_wt (E := En) (pr := pr) d ri sm (path ++ [i]) ni to (stx.path (pr, path ++ [i]) ni)
    rw [wt_path] at hg
    exact ⟨_, rfl, _, _, _, _, r', to, rfl, fr8.trans f9, L9, by omega, hfx⟩
  · rintro σ H2 ⟨n6, n7, n8, sti, ri, ni, rfl, fr, L, hw, hf⟩
    have e0 : bd.drop xs.length = [] := by rw [hlen, List.drop_length]
    rw [e0] at hf
    rw [show sti = layB En pr d path near far r bd st from hf] at L
    exact q _ L fr
end
end Dp
namespace Dp
open PySem L2
open C8 (Cal Met Mak pe_c pe_mk pe_mt pe_mt0 pe_gc InsC call_isC)
def twoS (isW : Bool) (c : Nat) (b1 b2 : List Stm) : Stm := if isW = true then .when c b1 b2 else .either b1 b2
theorem pw_in2 (w : PW) : inV (.str w.str) [.str "either", .str "when"] = false := by cases w <;> decide +kernel
section
variable {P : Program} {w : World} {K : PySem.W.Frag} {mg : Str → Option Value} {base : Heap} {kd pw CP CF : Addr} {f : Addr} {fd : FuncData}
abbrev st_law_lay : Stmt := top 59
abbrev N_law_lay : List Str := ["_law_flow_here", "_law_procedure", "_law_statement_here", "_law_a", "_law_b", "_law_path", "_law_word", "_law_mode", "_law_kinds", "_law_branch", "_law_n", "_law_m"]
theorem sc_law_lay : FnScope N_law_lay ["_law_flow_here", "_law_procedure", "_law_statement_here", "_law_a", "_law_b", "_law_path"] (defScope st_law_lay) := ⟨rfl, rfl, rfl, by decide +kernel, rfl, by decide +kernel, by decide +kernel⟩
theorem ok_law_lay {d k : Nat} (F : GFun K mg "_law_lay" st_law_lay f fd) (T : Txt K w mg kd pw CP CF) (c_law_next : Cal P w K mg base 1 "_law_next" (spLNext P w) []) (c_law_lay_body : Cal P w K mg base k "_law_lay_body" (spLLayBody P w d) []) (hk : 1 ≤ k) :
    Cal P w K mg base (k + 1) "_law_lay" (spLLay P w (d + 1)) [] := by
  have b : Binds K fd ["_law_flow_here", "_law_procedure", "_law_statement_here", "_law_a", "_law_b", "_law_path"] [] := F.fn.binds fun _ _ _ _ _ _ us hl => match us, hl with | [_, _, _, _, _, _], _ => rfl
  refine cal_of F b (F.fn.ok sc_law_lay (fun vs H Q E h => ?_) (fun cdv A outer s H vs Q E hr h => ?_))
  · obtain ⟨_, _, _, _, _, _, _, _, _, _, _, _, _, _, _, rfl, _⟩ := h
    rfl
  obtain ⟨En, r, fl, am, ao, ap, ae, st, pt, v, pr, path, near, far, sm, rfl, I, hS, hpd, q⟩ := h
  obtain ⟨a, ps, rfl, ha, hps⟩ := SA_view hS
  have hwt := I.wt
  have hu := hu1_of hr
  have hpl : path.length + 1 ≤ sizeLine := Nat.le_of_lt (lt_sizeLine (by omega))
  have h0 : atI ((.str (word sm) :: (headOf sm ++ ps.map V.ref)) : List V) 0 = some (.str (word sm)) := at_of (j := 0) rfl rfl
  refine ⟨_, ((pss_cons (ps_set (i := 6) sc_law_lay.nd rfl (Or.inl rfl) (pe_ix ix_tup (pv 2) pe_int (fun _ _ => rfl)))
  (pss_one (ps_if (pt_cmpR op_eq (pv 6) pe_str (nomark _)) (pss_one (ps_expr (pe_bm PySem.F.plainAttrs_list PySem.F.slot_list_append PySem.F.type_list_append mt_append (pe_dget hu (pv 0) pe_str (fun _ _ => rfl)) (pa_cons (pe_tup (pa_cons (pv 3) (pa_cons pe_str (pa_cons pe_non (pa_cons (pv 4) pa_nil))))) pa_nil)))) (pss_one (ps_if (pt_cmpR op_in_seq (pv 6) (pe_tup (pa_cons pe_str (pa_cons pe_str pa_nil))) (by rfl)) (pss_cons (ps_set (i := 7) sc_law_lay.nd rfl (Or.inl rfl) (pe_ifExp (pt_cmpR op_eq (pv 6) pe_str (nomark _)) (pe_ix ix_tup (pv 2) pe_int (fun _ _ => rfl)) pe_non))
  (pss_cons (ps_set (i := 8) sc_law_lay.nd rfl (Or.inl rfl) (pe_ifExp (pt_cmpR op_eq (pv 6) pe_str (nomark _)) (pe_lst (pa_cons pe_str (pa_cons pe_str pa_nil))) (pe_lst (pa_cons pe_str (pa_cons pe_str pa_nil)))))
  (pss_one (ps_for PassesOwn.never rfl (pi_range1 (by rfl) T.n_range (pa_cons pe_int pa_nil)) (pg_name (i := 9) sc_law_lay.nd rfl (Or.inl rfl))
  (pss_cons (ps_set (i := 10) sc_law_lay.nd rfl (Or.inl rfl) (pe_c c_law_next hr (by omega) (by rfl) (pa_cons (pv 0) (pa_cons (pv 1) pa_nil))))
  (pss_cons (ps_expr (pe_bm PySem.F.plainAttrs_list PySem.F.slot_list_append PySem.F.type_list_append mt_append (pe_dget hu (pv 0) pe_str (fun _ _ => rfl)) (pa_cons (pe_tup (pa_cons (pv 3) (pa_cons (pe_ix ix_list (pv 8) (pv 9) (fun _ _ => rfl)) (pa_cons (pv 7) (pa_cons (pv 10) pa_nil))))) pa_nil)))
  (pss_one (ps_expr (pe_c c_law_lay_body hr (by omega) (by rfl) (pa_cons (pv 0) (pa_cons (pv 1) (pa_cons (pe_ix ix_tup (pv 2) (pe_op op_sub (pv 9) pe_int) (fun _ _ => rfl)) (pa_cons (pv 10) (pa_cons (pv 4) (pa_cons (pe_op op_catB (pv 5) (pe_tup (pa_cons (pv 9) pa_nil))) pa_nil))))))))))))))) (pss_one (ps_if (pt_cmpR op_eq (pv 6) pe_str (nomark _)) (pss_cons (ps_set (i := 10) sc_law_lay.nd rfl (Or.inl rfl) (pe_c c_law_next hr (by omega) (by rfl) (pa_cons (pv 0) (pa_cons (pv 1) pa_nil))))
  (pss_cons (ps_expr (pe_bm PySem.F.plainAttrs_list PySem.F.slot_list_append PySem.F.type_list_append mt_append (pe_dget hu (pv 0) pe_str (fun _ _ => rfl)) (pa_cons (pe_tup (pa_cons (pv 3) (pa_cons pe_str (pa_cons (pe_ix ix_tup (pv 2) pe_int (fun _ _ => rfl)) (pa_cons (pv 10) pa_nil))))) pa_nil)))
  (pss_cons (ps_set (i := 11) sc_law_lay.nd rfl (Or.inl rfl) (pe_c c_law_next hr (by omega) (by rfl) (pa_cons (pv 0) (pa_cons (pv 1) pa_nil))))
  (pss_cons (ps_expr (pe_c c_law_lay_body hr (by omega) (by rfl) (pa_cons (pv 0) (pa_cons (pv 1) (pa_cons (pe_ix ix_tup (pv 2) pe_int (fun _ _ => rfl)) (pa_cons (pv 10) (pa_cons (pv 11) (pa_cons (pe_op op_catB (pv 5) (pe_tup (pa_cons pe_int pa_nil))) pa_nil))))))))
  (pss_one (ps_expr (pe_bm PySem.F.plainAttrs_list PySem.F.slot_list_append PySem.F.type_list_append mt_append (pe_dget hu (pv 0) pe_str (fun _ _ => rfl)) (pa_cons (pe_tup (pa_cons (pv 11) (pa_cons pe_str (pa_cons (pe_ix ix_tup (pv 2) pe_int (fun _ _ => rfl)) (pa_cons (pv 4) pa_nil))))) pa_nil)))))))) (pss_one (ps_if (pt_cmpR op_eq (pv 6) pe_str (nomark _)) (pss_cons (ps_set (i := 10) sc_law_lay.nd rfl (Or.inl rfl) (pe_c c_law_next hr (by omega) (by rfl) (pa_cons (pv 0) (pa_cons (pv 1) pa_nil))))
  (pss_cons (ps_expr (pe_bm PySem.F.plainAttrs_list PySem.F.slot_list_append PySem.F.type_list_append mt_append (pe_dget hu (pv 0) pe_str (fun _ _ => rfl)) (pa_cons (pe_tup (pa_cons (pv 3) (pa_cons pe_str (pa_cons pe_non (pa_cons (pv 10) pa_nil))))) pa_nil)))
  (pss_cons (ps_expr (pe_c c_law_lay_body hr (by omega) (by rfl) (pa_cons (pv 0) (pa_cons (pv 1) (pa_cons (pe_ix ix_tup (pv 2) pe_int (fun _ _ => rfl)) (pa_cons (pv 10) (pa_cons (pv 10) (pa_cons (pe_op op_catB (pv 5) (pe_tup (pa_cons pe_int pa_nil))) pa_nil))))))))
  (pss_one (ps_expr (pe_bm PySem.F.plainAttrs_list PySem.F.slot_list_append PySem.F.type_list_append mt_append (pe_dget hu (pv 0) pe_str (fun _ _ => rfl)) (pa_cons (pe_tup (pa_cons (pv 10) (pa_cons pe_str (pa_cons pe_non (pa_cons (pv 4) pa_nil))))) pa_nil))))))) (pss_one (ps_expr (pe_bm PySem.F.plainAttrs_list PySem.F.slot_list_append PySem.F.type_list_append mt_append (pe_dget hu (pv 0) pe_str (fun _ _ => rfl)) (pa_cons (pe_tup (pa_cons (pv 3) (pa_cons (pv 6) (pa_cons (pe_ix ix_tup (pv 2) pe_int (fun _ _ => rfl)) (pa_cons (pv 4) pa_nil))))) pa_nil)))))))))))))), ?_⟩
  -- word
  refine ⟨_, rfl, a, _, _, _, rfl, rfl, SqT.of ha, h0, ?_⟩
  by_cases h2 : ∃ (isW : Bool) (c : Nat) (b1 b2 : List Stm), sm = twoS isW c b1 b2
  · obtain ⟨isW, c, b1, b2, rfl⟩ := h2
    have hwt : st.wt + 9 * (1 + (szB d b1 + szB d b2)) ≤ 200002 := by cases isW <;> exact hwt
    obtain ⟨p1, p2, hpe, hB1, hB2⟩ : ∃ p1 p2, ps = [p1, p2] ∧ BA H d p1 b1 ∧ BA H d p2 b2 := by
      have hbo : bodiesOf (twoS isW c b1 b2) = [b1, b2] := by cases isW <;> rfl
      rw [hbo] at hps
      cases hps with
      | @cons p1 _ _ _ hB1 hps2 =>
      cases hps2 with
      | @cons p2 _ _ _ hB2 hps3 =>
      cases hps3
      exact ⟨p1, p2, rfl, hB1, hB2⟩
    subst hpe
    refine ⟨_, rfl, rfl, _, rfl, ?_⟩
    rw [show decide (V.str (word (twoS isW c b1 b2)) = V.str "skip") = false from by cases isW <;> (first | (show decide (V.str "either" = V.str "skip") = false; decide +kernel) | (show decide (V.str "when" = V.str "skip") = false; decide +kernel))]
    refine iteF ⟨_, rfl, by show 2 ≤ sizeLine; decide, fun t1 ht1 => ?_⟩
    have s1 := same_new ht1 (.tup [.str "either", .str "when"])
    refine ⟨t1, _, rfl, .inr (SqT.of upd_same), rfl, rfl, _, rfl, ?_⟩
    rw [show (if false = true then !inV (.str (word (twoS isW c b1 b2))) [.str "either", .str "when"] else inV (.str (word (twoS isW c b1 b2))) [.str "either", .str "when"]) = true from by cases isW <;> (first | (show inV (.str "either") [.str "either", .str "when"] = true; decide +kernel) | (show inV (.str "when") [.str "either", .str "when"] = true; decide +kernel))]
    refine iteT ?_
    have L1 := I.la.same s1
    have fr1 : Fr [am, ao, ap] H _ := Fr.same s1
    generalize upd H t1 (.tup [.str "either", .str "when"]) = H1 at L1 fr1
    have hdw : decide (V.str (word (twoS isW c b1 b2)) = V.str "when") = isW := by
      cases isW
      · show decide (V.str "either" = V.str "when") = false; decide +kernel
      · exact decide_eq_true rfl
    -- mode
    refine ⟨_, rfl, rfl, _, rfl, ?_⟩
    rw [hdw]
    apply join_if (fun σ' H' => σ' = [some (.ref fl), some (vN pr), some (.ref a), some (vN near), some (vN far), some (.ref pt), some (.str (word (twoS isW c b1 b2))), some (if isW = true then vN c else .non), none, none, none, none] ∧ H' = H1)
    · intro mn
      by_cases hW : isW = false
      · subst hW
        exact iteF (mn _ _ ⟨rfl, rfl⟩)
      · have hW : isW = true := by simpa using hW
        subst hW
        exact iteT ⟨_, rfl, a, _, _, _, rfl, rfl, SqT.of (fr1.tups _ _ ha), at_of (j := 1) rfl rfl, mn _ _ ⟨rfl, rfl⟩⟩
    rintro σ' H' ⟨rfl, rfl⟩
    -- kinds
    refine ⟨_, rfl, rfl, _, rfl, ?_⟩
    rw [hdw]
    apply join_if (fun σ' H2 => ∃ kl : Addr, σ' = [some (.ref fl), some (vN pr), some (.ref a), some (vN near), some (vN far), some (.ref pt), some (.str (word (twoS isW c b1 b2))), some (if isW = true then vN c else .non), some (.ref kl), none, none, none] ∧ Same H' H2 ∧ H2 kl = some (.lst [.str (if isW = true then "is" else "step"), .str (if isW = true then "not" else "step")]) ∧ H' kl = none)
    · intro mn
      by_cases hW : isW = false
      · subst hW
        exact iteF ⟨by show 2 ≤ sizeLine; decide, fun kl hkl => mn _ _ ⟨kl, rfl, same_new hkl _, upd_same, hkl⟩⟩
      · have hW : isW = true := by simpa using hW
        subst hW
        exact iteT ⟨by show 2 ≤ sizeLine; decide, fun kl hkl => mn _ _ ⟨kl, rfl, same_new hkl _, upd_same, hkl⟩⟩
    rintro σ' H2 ⟨kl, rfl, s2, hkl, hkn⟩
    have fr2 := fr1.trans (Fr.same s2)
    have L2 := L1.same s2
    have hnk : kl ∉ [am, ao, ap] := by
      obtain ⟨rs, m1, _⟩ := L1.mv
      obtain ⟨φ, hφ⟩ := L1.pa.ext
      intro z
      have z' : kl = am ∨ kl = ao ∨ kl = ap := by simpa using z
      rcases z' with z | z | z
      · rw [z, m1] at hkn; cases hkn
      · rw [z, L1.own] at hkn; cases hkn
      · rw [z, hφ] at hkn; cases hkn
    have hfinal : layS En pr (d + 1) r (twoS isW c b1 b2) path near far st = brStep En pr d r path near far (if isW = true then "not" else "step") (if isW = true then vN c else .non) 1 b2 (brStep En pr d r path near far (if isW = true then "is" else "step") (if isW = true then vN c else .non) 0 b1 st) := by cases isW <;> rfl
    rw [hfinal] at q
    have hh2 : atI ((.str (word (twoS isW c b1 b2)) :: (headOf (twoS isW c b1 b2) ++ [p1, p2].map V.ref)) : List V) (-2) = some (.ref p1) := by cases isW <;> rfl
    have hh1 : atI ((.str (word (twoS isW c b1 b2)) :: (headOf (twoS isW c b1 b2) ++ [p1, p2].map V.ref)) : List V) (-1) = some (.ref p2) := by cases isW <;> rfl
    generalize (if isW = true then vN c else V.non) = what at q
    generalize (if isW = true then ("is" : Str) else "step") = k0 at q hkl
    generalize (if isW = true then ("not" : Str) else "step") = k1 at q hkl
    refine ⟨_, rfl, by omega, by omega, ?_⟩
    refine for_it (walk_range (lo := 0) (n := ((2 : Nat) : Int).toNat)) (fun i σ H3 => ∃ (n9 n10 : Option V), σ = [some (.ref fl), some (vN pr), some (.ref a), some (vN near), some (vN far), some (.ref pt), some (.str (word (twoS isW c b1 b2))), some what, some (.ref kl), n9, n10, none] ∧
      Fr [am, ao, ap] H H3 ∧ H3 kl = some (.lst [.str k0, .str k1]) ∧ LayAt P w H3 am ao ap (match i with | 0 => st | 1 => brStep En pr d r path near far k0 what 0 b1 st | _ => brStep En pr d r path near far k1 what 1 b2 (brStep En pr d r path near far k0 what 0 b1 st))) ?_ (fun _ _ _ _ _ => trivial) ?_ ?_
    · exact ⟨none, none, rfl, fr2, hkl, L2⟩
    · rintro i y σ H3 H3' hi ⟨n9, n10, rfl, fr3, hkl3, L3⟩ ⟨rfl, rfl⟩
      have hi2 : i < 2 := hi
      -- one branch
      obtain ⟨sti, ki, bi, pi, hsti, hki, hpi, hBi, hwi, hnext⟩ : ∃ (sti : LS) (ki : Str) (bi : List Stm) (pi : Addr), LayAt P w H3' am ao ap sti ∧ atI [V.str k0, V.str k1] (i : Int) = some (.str ki) ∧ atI ((.str (word (twoS isW c b1 b2)) :: (headOf (twoS isW c b1 b2) ++ [p1, p2].map V.ref)) : List V) ((i : Int) - 2) = some (.ref pi) ∧ BA H d pi bi ∧
          sti.wt + 3 + 9 * szB d bi ≤ 200000 ∧ (brStep En pr d r path near far ki what i bi sti) = (match i + 1 with | 0 => st | 1 => brStep En pr d r path near far k0 what 0 b1 st | _ => brStep En pr d r path near far k1 what 1 b2 (brStep En pr d r path near far k0 what 0 b1 st)) := by
        match i, hi2, L3 with
        | 0, _, L3 => exact ⟨st, k0, b1, p1, L3, rfl, hh2, hB1, by omega, rfl⟩
        | 1, _, L3 =>
          have w4 := brStep_wt (E := En) (pr := pr) (d := d) (r := r) (path := path) (near := near) (far := far) (kind := k0) (what := what) (j := 0) (b := b1) (st := st)
          exact ⟨brStep En pr d r path near far k0 what 0 b1 st, k1, b2, p2, L3, rfl, hh1, hB2, by omega, rfl⟩
      rw [← hnext]
      have e0 : (0 : Int) + (i : Int) = (i : Int) := Int.zero_add _
      -- n = next
      refine ⟨_, rfl, _, rfl, fl, am, ao, ap, ae, pr, sti, rfl, I.lf.fr I.la fr3, hsti, by omega, fun H4 L4 f4 => ?_⟩
      have L4 := L4 r
      have w4 := wt_next sti pr r
      have fr4 := fr3.trans f4
      have hkl4 := f4.mem hkl3 hnk
      generalize hst4 : sti.next pr r = st4 at L4 w4
      -- the move
      refine ⟨_, rfl, fl, _, rfl, (I.lf.fr I.la fr4).moves, .inl ⟨rfl, sql_mv L4⟩, _, rfl, _, rfl, _, rfl, kl, _, _, _, rfl, rfl, SqL.of hkl4, (by rw [e0]; exact hki), _, rfl, _, rfl, by show 4 ≤ sizeLine; decide, fun p hp => ?_⟩
      obtain ⟨ys, g1, g2, L5, f5⟩ := mv_at (m := ⟨near, ki, what, sti.own.length⟩) L4 (by omega) hp
      refine ⟨am, ys, _, rfl, rfl, g1, g2, ?_⟩
      have w5 := wt_move st4 ⟨near, ki, what, sti.own.length⟩
      have fr5 := fr4.trans f5
      have hkl5 := (f4.trans f5).mem hkl3 hnk
      generalize hst5 : st4.move ⟨near, ki, what, sti.own.length⟩ = st5 at L5 w5
      -- the body
      refine ⟨_, rfl, _, rfl, _, rfl, _, rfl, _, _, rfl, rfl, a, _, _, _, rfl, rfl, SqT.of (fr5.tups _ _ ha), (by rw [e0]; exact hpi), _, rfl, _, rfl, _, rfl, _, rfl, by show 1 ≤ sizeLine; decide, fun p4 hp4 => ?_⟩
      have s4 := same_new hp4 (.tup [.int (0 + (i : Int))])
      refine ⟨pt, p4, _, _, rfl, rfl, SqT.of (s4 _ _ (fr5.tups _ _ I.pt)), upd_same, (fun z => by cases z), (by rw [List.length_map]; exact hpl), fun q5 H5 s5 hq5 => ?_⟩
      have hq5 : H5 q5 = some (.tup ((path ++ [i]).map vN)) := by
        have z : H5 q5 = some (.tup (path.map vN ++ [V.int (0 + (i : Int))])) := hq5
        rw [e0] at z
        rw [← map_vN_snoc]
        exact z
      have s45 := same_trans s4 s5
      have f6 := fr5.trans (Fr.same s45)
      refine ⟨En, r, fl, am, ao, ap, ae, st5, q5, pi, pr, path ++ [i], sti.own.length, far, bi, rfl, ⟨I.lf.fr I.la f6, L5.same s45, by omega, hq5⟩, BA_mono f6.tups hBi, by rw [List.length_append, List.length_singleton]; omega, fun H7 L7 f7 => ?_⟩
      refine ⟨_, _, rfl, f6.trans f7, ?_, ?_⟩
      · exact ((Fr.same s45).trans f7).mem hkl5 hnk
      · subst hst4 hst5
        exact L7
    · rintro σ H3 ⟨n9, n10, rfl, fr3, hkl3, L3⟩
      exact q _ L3 fr3
  cases sm with
  | either b1 b2 => exact absurd ⟨false, 0, b1, b2, rfl⟩ h2
  | when c b1 b2 => exact absurd ⟨true, c, b1, b2, rfl⟩ h2
  | skip =>
    have hwt : st.wt + 9 * 1 ≤ 200002 := hwt
    refine ⟨_, rfl, rfl, _, rfl, ?_⟩
    rw [decide_eq_true (show V.str (word .skip) = V.str "skip" from rfl)]
    refine iteT ⟨_, rfl, fl, _, rfl, I.lf.moves, .inl ⟨rfl, sql_mv I.la⟩, _, rfl, _, rfl, by show 4 ≤ sizeLine; decide, fun p hp => ?_⟩
    obtain ⟨ys, g1, g2, L1, f1⟩ := mv_at (m := ⟨near, "step", .non, far⟩) I.la (by omega) hp
    exact ⟨am, ys, _, rfl, rfl, g1, g2, q _ L1 f1⟩
  | plain pw' n =>
    have hwt : st.wt + 9 * 1 ≤ 200002 := hwt
    refine ⟨_, rfl, rfl, _, rfl, ?_⟩
    rw [show decide (V.str (word (.plain pw' n)) = V.str "skip") = false from pw_not (.inl rfl)]
    refine iteF ⟨_, rfl, by show 2 ≤ sizeLine; decide, fun t1 ht1 => ?_⟩
    have s1 := same_new ht1 (.tup [.str "either", .str "when"])
    refine ⟨t1, _, rfl, .inr (SqT.of upd_same), rfl, rfl, _, rfl, ?_⟩
    rw [show (if false = true then !inV (.str (word (.plain pw' n))) [.str "either", .str "when"] else inV (.str (word (.plain pw' n))) [.str "either", .str "when"]) = false from pw_in2 pw']
    refine iteF ⟨_, rfl, rfl, _, rfl, ?_⟩
    rw [show decide (V.str (word (.plain pw' n)) = V.str "hold") = false from pw_not (.inr (.inl rfl))]
    refine iteF ⟨_, rfl, rfl, _, rfl, ?_⟩
    rw [show decide (V.str (word (.plain pw' n)) = V.str "loop") = false from pw_not (.inr (.inr rfl))]
    have h1 : atI ((.str (word (.plain pw' n)) :: (headOf (.plain pw' n) ++ ps.map V.ref)) : List V) 1 = some (vN n) := by cases pw' <;> exact at_of (j := 1) rfl rfl
    have L0 := I.la.same s1
    refine iteF ⟨_, rfl, fl, _, rfl, (I.lf.same s1).moves, .inl ⟨rfl, sql_mv L0⟩, _, rfl, _, rfl, _, rfl, a, _, _, _, rfl, rfl, SqT.of (s1 _ _ ha), h1, _, rfl, by show 4 ≤ sizeLine; decide, fun p hp => ?_⟩
    obtain ⟨ys, g1, g2, L1, f1⟩ := mv_at (m := ⟨near, pw'.str, vN n, far⟩) L0 (by omega) hp
    exact ⟨am, ys, _, rfl, rfl, g1, g2, q _ L1 ((Fr.same s1).trans f1)⟩
  | hold lk body =>
    have hwt : st.wt + 9 * (1 + szB d body) ≤ 200002 := hwt
    cases hps with
    | @cons bp _ _ _ hB hnil =>
    cases hnil
    refine ⟨_, rfl, rfl, _, rfl, ?_⟩
    rw [decide_eq_false (show ¬ V.str (word (.hold lk body)) = V.str "skip" from by show ¬ V.str "hold" = V.str "skip"; decide +kernel)]
    refine iteF ⟨_, rfl, by show 2 ≤ sizeLine; decide, fun t1 ht1 => ?_⟩
    have s1 := same_new ht1 (.tup [.str "either", .str "when"])
    refine ⟨t1, _, rfl, .inr (SqT.of upd_same), rfl, rfl, _, rfl, ?_⟩
    rw [show (if false = true then !inV (.str (word (.hold lk body))) [.str "either", .str "when"] else inV (.str (word (.hold lk body))) [.str "either", .str "when"]) = false from by show inV (.str "hold") [.str "either", .str "when"] = false; decide +kernel]
    refine iteF ⟨_, rfl, rfl, _, rfl, ?_⟩
    rw [decide_eq_true (show V.str (word (.hold lk body)) = V.str "hold" from rfl)]
    have L1 := I.la.same s1
    have lf1 := I.lf.same s1
    have fr1 : Fr [am, ao, ap] H _ := Fr.same s1
    generalize upd H t1 (.tup [.str "either", .str "when"]) = H1 at L1 lf1 fr1
    -- n = next
    refine iteT ⟨_, rfl, _, rfl, fl, am, ao, ap, ae, pr, st, rfl, lf1, L1, by omega, fun H2 L2 f2 => ?_⟩
    have L2 := L2 r
    have w2 := wt_next st pr r
    have fr2 := fr1.trans f2
    generalize hst2 : st.next pr r = st2 at L2 w2
    -- the take
    refine ⟨_, rfl, fl, _, rfl, (I.lf.fr I.la fr2).moves, .inl ⟨rfl, sql_mv L2⟩, _, rfl, _, rfl, a, _, _, _, rfl, rfl, SqT.of (fr2.tups _ _ ha), at_of (j := 1) rfl rfl, _, rfl, by show 4 ≤ sizeLine; decide, fun p hp => ?_⟩
    obtain ⟨ys, g1, g2, L3, f3⟩ := mv_at (m := ⟨near, "take", vN lk, st.own.length⟩) L2 (by omega) hp
    refine ⟨am, ys, _, rfl, rfl, g1, g2, ?_⟩
    have w3 := wt_move st2 ⟨near, "take", vN lk, st.own.length⟩
    have o3 : (st2.move ⟨near, "take", vN lk, st.own.length⟩).own.length = st.own.length + 1 := by rw [← hst2]; simp [LS.next, LS.move]
    have fr3 := fr2.trans f3
    generalize hst3 : st2.move ⟨near, "take", vN lk, st.own.length⟩ = st3 at L3 w3 o3
    -- m = next
    refine ⟨_, rfl, _, rfl, fl, am, ao, ap, ae, pr, st3, rfl, I.lf.fr I.la fr3, L3, by omega, fun H4 L4 f4 => ?_⟩
    rw [o3]
    have L4 := L4 (r ∧ canB En d body = true)
    have w4 := wt_next st3 pr (r ∧ canB En d body = true)
    have fr4 := fr3.trans f4
    generalize hst4 : st3.next pr (r ∧ canB En d body = true) = st4 at L4 w4
    -- the body
    refine ⟨_, rfl, _, rfl, _, rfl, a, _, _, _, rfl, rfl, SqT.of (fr4.tups _ _ ha), at_of (j := 2) rfl rfl, _, rfl, _, rfl, _, rfl, by show 1 ≤ sizeLine; decide, fun p4 hp4 => ?_⟩
    have s4 := same_new hp4 (.tup [.int 0])
    refine ⟨pt, p4, _, _, rfl, rfl, SqT.of (s4 _ _ (fr4.tups _ _ I.pt)), upd_same, (fun z => by cases z), (by rw [List.length_map]; exact hpl), fun q5 H5 s5 hq5 => ?_⟩
    have hq5 : H5 q5 = some (.tup ((path ++ [0]).map vN)) := by rw [← map_vN_snoc]; exact hq5
    have s45 := same_trans s4 s5
    have f6 := fr4.trans (Fr.same s45)
    refine ⟨En, r, fl, am, ao, ap, ae, st4, q5, bp, pr, path ++ [0], st.own.length, (st.own.length + 1), body, rfl, ⟨I.lf.fr I.la f6, L4.same s45, by omega, hq5⟩, BA_mono f6.tups hB, by rw [List.length_append, List.length_singleton]; omega, fun H7 L7 f7 => ?_⟩
    have f17 := f6.trans f7
    have w7 := layB_wt (E := En) (pr := pr) (d := d) (near := st.own.length) (far := st.own.length + 1) (path := path ++ [0]) (r := r) (b := body) (st := st4)
    -- the give
    refine ⟨_, rfl, fl, _, rfl, (I.lf.fr I.la f17).moves, .inl ⟨rfl, sql_mv L7⟩, _, rfl, _, rfl, a, _, _, _, rfl, rfl, SqT.of (f17.tups _ _ ha), at_of (j := 1) rfl rfl, _, rfl, by show 4 ≤ sizeLine; decide, fun p8 hp8 => ?_⟩
    obtain ⟨ys8, g81, g82, L8, f8⟩ := mv_at (m := ⟨st.own.length + 1, "give", vN lk, far⟩) L7 (by omega) hp8
    refine ⟨am, ys8, _, rfl, rfl, g81, g82, q _ ?_ (f17.trans f8)⟩
    subst hst2 hst3 hst4
    exact L8
  | loop body =>
    have hwt : st.wt + 9 * (1 + szB d body) ≤ 200002 := hwt
    cases hps with
    | @cons bp _ _ _ hB hnil =>
    cases hnil
    refine ⟨_, rfl, rfl, _, rfl, ?_⟩
    rw [decide_eq_false (show ¬ V.str (word (.loop body)) = V.str "skip" from by show ¬ V.str "loop" = V.str "skip"; decide +kernel)]
    refine iteF ⟨_, rfl, by show 2 ≤ sizeLine; decide, fun t1 ht1 => ?_⟩
    have s1 := same_new ht1 (.tup [.str "either", .str "when"])
    refine ⟨t1, _, rfl, .inr (SqT.of upd_same), rfl, rfl, _, rfl, ?_⟩
    rw [show (if false = true then !inV (.str (word (.loop body))) [.str "either", .str "when"] else inV (.str (word (.loop body))) [.str "either", .str "when"]) = false from by show inV (.str "loop") [.str "either", .str "when"] = false; decide +kernel]
    refine iteF ⟨_, rfl, rfl, _, rfl, ?_⟩
    rw [decide_eq_false (show ¬ V.str (word (.loop body)) = V.str "hold" from by show ¬ V.str "loop" = V.str "hold"; decide +kernel)]
    refine iteF ⟨_, rfl, rfl, _, rfl, ?_⟩
    rw [decide_eq_true (show V.str (word (.loop body)) = V.str "loop" from rfl)]
    have L1 := I.la.same s1
    have lf1 := I.lf.same s1
    have fr1 : Fr [am, ao, ap] H _ := Fr.same s1
    generalize upd H t1 (.tup [.str "either", .str "when"]) = H1 at L1 lf1 fr1
    -- n = next
    refine iteT ⟨_, rfl, _, rfl, fl, am, ao, ap, ae, pr, st, rfl, lf1, L1, by omega, fun H2 L2 f2 => ?_⟩
    have L2 := L2 r
    have w2 := wt_next st pr r
    have fr2 := fr1.trans f2
    generalize hst2 : st.next pr r = st2 at L2 w2
    refine ⟨_, rfl, fl, _, rfl, (I.lf.fr I.la fr2).moves, .inl ⟨rfl, sql_mv L2⟩, _, rfl, _, rfl, by show 4 ≤ sizeLine; decide, fun p hp => ?_⟩
    obtain ⟨ys, g1, g2, L3, f3⟩ := mv_at (m := ⟨near, "step", .non, st.own.length⟩) L2 (by omega) hp
    refine ⟨am, ys, _, rfl, rfl, g1, g2, ?_⟩
    have w3 := wt_move st2 ⟨near, "step", .non, st.own.length⟩
    have fr3 := fr2.trans f3
    generalize hst3 : st2.move ⟨near, "step", .non, st.own.length⟩ = st3 at L3 w3
    -- the body
    refine ⟨_, rfl, _, rfl, _, rfl, a, _, _, _, rfl, rfl, SqT.of (fr3.tups _ _ ha), at_of (j := 1) rfl rfl, _, rfl, _, rfl, _, rfl, by show 1 ≤ sizeLine; decide, fun p4 hp4 => ?_⟩
    have s4 := same_new hp4 (.tup [.int 0])
    refine ⟨pt, p4, _, _, rfl, rfl, SqT.of (s4 _ _ (fr3.tups _ _ I.pt)), upd_same, (fun z => by cases z), (by rw [List.length_map]; exact hpl), fun q5 H5 s5 hq5 => ?_⟩
    have hq5 : H5 q5 = some (.tup ((path ++ [0]).map vN)) := by rw [← map_vN_snoc]; exact hq5
    have s45 := same_trans s4 s5
    have f6 := fr3.trans (Fr.same s45)
    refine ⟨En, r, fl, am, ao, ap, ae, st3, q5, bp, pr, path ++ [0], st.own.length, st.own.length, body, rfl, ⟨I.lf.fr I.la f6, L3.same s45, by omega, hq5⟩, BA_mono f6.tups hB, by rw [List.length_append, List.length_singleton]; omega, fun H7 L7 f7 => ?_⟩
    have f17 := f6.trans f7
    have w7 := layB_wt (E := En) (pr := pr) (d := d) (near := st.own.length) (far := st.own.length) (path := path ++ [0]) (r := r) (b := body) (st := st3)
    refine ⟨_, rfl, fl, _, rfl, (I.lf.fr I.la f17).moves, .inl ⟨rfl, sql_mv L7⟩, _, rfl, _, rfl, by show 4 ≤ sizeLine; decide, fun p8 hp8 => ?_⟩
    obtain ⟨ys8, g81, g82, L8, f8⟩ := mv_at (m := ⟨st.own.length, "step", .non, far⟩) L7 (by omega) hp8
    refine ⟨am, ys8, _, rfl, rfl, g81, g82, q _ ?_ (f17.trans f8)⟩
    subst hst2 hst3
    exact L8
end
end Dp
namespace Dp
open PySem L2
open C8 (Cal Met Mak pe_c pe_mk pe_mt pe_mt0 pe_gc InsC call_isC)
section
variable {P : Program} {w : World} {K : PySem.W.Frag} {mg : Str → Option Value} {base : Heap} {kd pw CP CF : Addr} {f fB : Addr} {fd fdB : FuncData}
theorem law_lay_all (F : GFun K mg "_law_lay" st_law_lay f fd) (FB : GFun K mg "_law_lay_body" st_law_lay_body fB fdB) (T : Txt K w mg kd pw CP CF) (c_law_next : Cal P w K mg base 1 "_law_next" (spLNext P w) []) :
    ∀ d, Cal P w K mg base (2 * d + 1) "_law_lay" (spLLay P w d) [] ∧ Cal P w K mg base (2 * d + 2) "_law_lay_body" (spLLayBody P w d) []
  | 0 => by
    have b : Binds K fd ["_law_flow_here", "_law_procedure", "_law_statement_here", "_law_a", "_law_b", "_law_path"] [] := F.fn.binds fun _ _ _ _ _ _ us hl => match us, hl with | [_, _, _, _, _, _], _ => rfl
    have no : ∀ vs H Q E, ¬ spLLay P w 0 vs H Q E := fun vs H Q E h => by
      obtain ⟨_, _, _, _, _, _, _, _, _, _, _, _, _, _, _, rfl, _, h, _⟩ := h
      exact h
    have c : Cal P w K mg base 1 "_law_lay" (spLLay P w 0) [] := cal_of F b ⟨fun vs H Q E h => absurd h (no vs H Q E), fun A outer s H args us vs Q E _ _ _ _ h => absurd h (no vs H Q E)⟩
    exact ⟨c, ok_law_lay_body FB T c_law_next c (Nat.le_refl 1)⟩
  | d + 1 => by
    have ih := (law_lay_all F FB T c_law_next d).2
    have c := ok_law_lay F T c_law_next ih (by omega)
    exact ⟨c, ok_law_lay_body FB T c_law_next c (by omega)⟩
end
/-- while the law lays the procedures -/
structure LFMid (P : Program) (w : World) (H0 H : Hp) (fl am ao ap ae : Addr) (st : LS) (es : List Addr) (bg : List Nat) : Prop where
  s : Same H0 H
  lf : LFIn H fl am ao ap ae
  la : LayAt P w H am ao ap st
  he : H ae = some (.lst (es.map V.ref))
  pe : Paired (fun (a : Addr) (x : Nat) => H a = some (.tup [vN x, vN (x + 1)])) es bg
  fm : H0 am = none
  fo : H0 ao = none
  fp : H0 ap = none
  fe : H0 ae = none
  nd : ae ∉ [am, ao, ap]
theorem LFMid.same {P : Program} {w : World} {H0 H H' : Hp} {fl am ao ap ae : Addr} {st : LS} {es : List Addr} {bg : List Nat} (h : LFMid P w H0 H fl am ao ap ae st es bg) (s : Same H H') : LFMid P w H0 H' fl am ao ap ae st es bg :=
  ⟨same_trans h.s s, h.lf.same s, h.la.same s, s _ _ h.he, paired_mono (fun _ _ z => s _ _ z) h.pe, h.fm, h.fo, h.fp, h.fe, h.nd⟩
theorem LFMid.fr {P : Program} {w : World} {H0 H H' : Hp} {fl am ao ap ae : Addr} {st st' : LS} {es : List Addr} {bg : List Nat} (h : LFMid P w H0 H fl am ao ap ae st es bg) (L : LayAt P w H' am ao ap st') (f : Fr [am, ao, ap] H H') : LFMid P w H0 H' fl am ao ap ae st' es bg :=
  ⟨fun b o e => f.mem (h.s _ _ e) (by
      intro z
      have z' : b = am ∨ b = ao ∨ b = ap := by simpa using z
      rcases z' with z | z | z
      · rw [z, h.fm] at e; cases e
      · rw [z, h.fo] at e; cases e
      · rw [z, h.fp] at e; cases e), h.lf.fr h.la f, L, f.mem h.he h.nd, paired_mono (fun _ _ z => f.tups _ _ z) h.pe, h.fm, h.fo, h.fp, h.fe, h.nd⟩
theorem LFMid.end_ {P : Program} {w : World} {H0 H : Hp} {fl am ao ap ae q : Addr} {st : LS} {es : List Addr} {bg : List Nat} (h : LFMid P w H0 H fl am ao ap ae st es bg) {x : Nat} (hq : H q = some (.tup [vN x, vN (x + 1)])) : LFMid P w H0 (upd H ae (.lst (es.map V.ref ++ [.ref q]))) fl am ao ap ae st (es ++ [q]) (bg ++ [x]) := by
  have t := tups_lst (o := .lst (es.map V.ref ++ [.ref q])) h.he
  have nd := h.nd
  have n1 : am ≠ ae := fun z => nd (by simp [z])
  have n2 : ao ≠ ae := fun z => nd (by simp [z])
  have n3 : ap ≠ ae := fun z => nd (by simp [z])
  obtain ⟨rs, m1, m2⟩ := h.la.mv
  refine ⟨fun b o e => by rw [upd_ne (ne_of_none e h.fe)]; exact h.s _ _ e, ?_, ⟨by rw [upd_ne n2]; exact h.la.own, ⟨rs, by rw [upd_ne n1]; exact m1, paired_mono (fun _ _ z => t _ _ z) m2⟩, h.la.pa.keep (upd_ne n3) t, h.la.ne⟩, by rw [upd_same, List.map_append]; rfl, paired_add (paired_mono (fun _ _ z => t _ _ z) h.pe) (t _ _ hq), h.fm, h.fo, h.fp, h.fe, h.nd⟩
  have nf : fl ≠ ae := ne_of h.lf h.he (by intro z; cases z)
  show _ = _
  rw [upd_ne nf]
  exact h.lf
section
variable {P : Program} {w : World} {K : PySem.W.Frag} {mg : Str → Option Value} {base : Heap} {kd pw CP CF : Addr} {f fB : Addr} {fd fdB : FuncData}
def spLawFlow (P : Program) (w : World) (d : Nat) : Sp := fun vs H Q _ => ∃ (E : List Nat) (R : Nat → Prop) (ab : Addr) (ps : List Addr) (bodies : List (List Stm)), vs = [.ref ab] ∧ H ab = some (.lst (ps.map V.ref)) ∧ Paired (BA H d) ps bodies ∧ bodies.length ≤ 6 ∧ (∀ b ∈ bodies, szB d b ≤ 1000) ∧ d ≤ 100 ∧
  ∀ (H' : Hp) (fl am ao ap ae : Addr) (es : List Addr), LFMid P w H H' fl am ao ap ae (layProcs E R d bodies 0 LS.nil) es (begins E R d bodies 0 LS.nil) → Q (.ref fl) H'
abbrev st_law_flow : Stmt := top 60
abbrev N_law_flow : List Str := ["_law_bodies", "_law_flow_here", "_law_procedure", "_law_body_here", "_law_begin", "_law_end"]
theorem sc_law_flow : FnScope N_law_flow ["_law_bodies"] (defScope st_law_flow) := ⟨rfl, rfl, rfl, by decide +kernel, rfl, by decide +kernel, by decide +kernel⟩
theorem ok_law_flow {d k : Nat} (F : GFun K mg "_law_flow" st_law_flow f fd) (T : Txt K w mg kd pw CP CF) (c_law_next : Cal P w K mg base 1 "_law_next" (spLNext P w) []) (c_law_lay_body : Cal P w K mg base k "_law_lay_body" (spLLayBody P w d) []) (hk : 1 ≤ k) : Cal P w K mg base (k + 1) "_law_flow" (spLawFlow P w d) [] := by
  have b : Binds K fd ["_law_bodies"] [] := F.fn.binds fun _ _ _ _ _ _ us hl => match us, hl with | [_], _ => rfl
  refine cal_of F b (F.fn.ok sc_law_flow (fun vs H Q E h => ?_) (fun cdv A outer s H vs Q E hr h => ?_))
  · obtain ⟨_, _, _, _, _, rfl, _⟩ := h
    rfl
  obtain ⟨En, R, ab, ps, bodies, rfl, hab, hps, hn6, hsz, hd, q⟩ := h
  have hu := hu1_of hr
  refine ⟨_, ((pss_cons (ps_set (i := 1) sc_law_flow.nd rfl (Or.inl rfl) (pe_disp (pps_cons pe_str (pe_lst pa_nil) (pps_cons pe_str (pe_lst pa_nil) (pps_cons pe_str pe_dnewN (pps_cons pe_str (pe_lst pa_nil) pps_nil)))) (by rfl) (by rfl) (fun z => by cases z) (by decide)))
  (pss_cons (ps_for PassesOwn.never rfl (pi_enum (by rfl) T.n_enumerate (pa_cons (pv 0) pa_nil)) (pg_tup rfl (pgs_cons (pg_name (i := 2) sc_law_flow.nd rfl (Or.inl rfl)) (pgs_cons (pg_name (i := 3) sc_law_flow.nd rfl (Or.inl rfl)) pgs_nil)))
  (pss_cons (ps_set (i := 4) sc_law_flow.nd rfl (Or.inl rfl) (pe_c c_law_next hr (by omega) (by rfl) (pa_cons (pv 1) (pa_cons (pv 2) pa_nil))))
  (pss_cons (ps_set (i := 5) sc_law_flow.nd rfl (Or.inl rfl) (pe_c c_law_next hr (by omega) (by rfl) (pa_cons (pv 1) (pa_cons (pv 2) pa_nil))))
  (pss_cons (ps_expr (pe_bm PySem.F.plainAttrs_list PySem.F.slot_list_append PySem.F.type_list_append mt_append (pe_dget hu (pv 1) pe_str (fun _ _ => rfl)) (pa_cons (pe_tup (pa_cons (pv 4) (pa_cons (pv 5) pa_nil))) pa_nil)))
  (pss_one (ps_expr (pe_c c_law_lay_body hr (by omega) (by rfl) (pa_cons (pv 1) (pa_cons (pv 2) (pa_cons (pv 3) (pa_cons (pv 4) (pa_cons (pv 5) (pa_cons (pe_tup pa_nil) pa_nil)))))))))))))
  (pss_one (ps_ret (pv 1)))))), ?_⟩
  refine fun fl hfl => ⟨Nat.zero_le _, fun am ham => ⟨Nat.zero_le _, fun ao hao => fun ap φ hap ndp => ⟨Nat.zero_le _, fun ae hae => ?_⟩⟩⟩
  have s0 := same_new hfl (.dK [])
  have s1 := same_new ham (.lst [])
  have s2 := same_new hao (.lst [])
  have s3 := same_new hap (.ext φ)
  have s4 := same_new hae (.lst [])
  have s01 := same_trans s0 s1
  have s02 := same_trans s01 s2
  have s03 := same_trans s02 s3
  have s04 := same_trans s03 s4
  have hfl1 : (upd H fl (.dK [])) fl = some (.dK []) := upd_same
  generalize upd H fl (.dK []) = H1 at hfl1 ham hao hap hae ndp s0 s1 s2 s3 s4 s01 s02 s03 s04 ⊢
  have ham2 : (upd H1 am (.lst [])) am = some (.lst []) := upd_same
  have hfl2 := s1 _ _ hfl1
  generalize upd H1 am (.lst []) = H2 at hfl2 ham2 hao hap hae ndp s1 s2 s3 s4 s01 s02 s03 s04 ⊢
  have hao3 : (upd H2 ao (.lst [])) ao = some (.lst []) := upd_same
  have hfl3 := s2 _ _ hfl2
  have ham3 := s2 _ _ ham2
  generalize upd H2 ao (.lst []) = H3 at hfl3 ham3 hao3 hap hae ndp s2 s3 s4 s02 s03 s04 ⊢
  have hfl4 := s3 _ _ hfl3
  have ham4 := s3 _ _ ham3
  have hao4 := s3 _ _ hao3
  generalize upd H3 ap (.ext φ) = H4 at hfl4 ham4 hao4 hae ndp s3 s4 s03 s04 ⊢
  have hae5 : (upd H4 ae (.lst [])) ae = some (.lst []) := upd_same
  have hfl5 := s4 _ _ hfl4
  have ham5 := s4 _ _ ham4
  have hao5 := s4 _ _ hao4
  have hap4 := ndp.ext
  obtain ⟨φ', hap4⟩ := hap4
  have hap5 := s4 _ _ hap4
  have ndp5 : NDict P w (upd H4 ae (.lst [])) ap (fun _ => none) 0 := ndp.keep (by rw [hap5, hap4]) s4.tups
  have fm : H am = none := same_none s0 ham
  have fo : H ao = none := same_none s01 hao
  have fp : H ap = none := same_none s02 hap
  have fe : H ae = none := same_none s03 hae
  have nae : ae ∉ [am, ao, ap] := by
    intro z
    have z' : ae = am ∨ ae = ao ∨ ae = ap := by simpa using z
    rcases z' with z | z | z
    · rw [z, ham4] at hae; cases hae
    · rw [z, hao4] at hae; cases hae
    · rw [z, hap4] at hae; cases hae
  generalize upd H4 ae (.lst []) = H5 at hae5 hfl5 ham5 hao5 hap5 ndp5 s4 s04 ⊢
  refine ⟨hfl5, kvsF am ao ap ae, rfl, by show 4 ≤ 15; decide, ?_⟩
  have em : mergeK [] (kvsF am ao ap ae) = kvsF am ao ap ae := by kernel_rfl
  rw [em]
  have t6 : Tups H5 (upd H5 fl (.dK (kvsF am ao ap ae))) := tups_upd fun xs z => by rw [hfl5] at z; cases z
  have ne : ∀ {c : Addr} {o : HO}, H5 c = some o → (∀ k, o ≠ .dK k) → c ≠ fl := fun e hz => ne_of e hfl5 (hz _)
  have M0 : LFMid P w H (upd H5 fl (.dK (kvsF am ao ap ae))) fl am ao ap ae LS.nil [] [] := by
    refine ⟨fun b o e => by rw [upd_ne (ne_of_none e hfl)]; exact s04 _ _ e, upd_same, ⟨?_, ⟨[], ?_, .nil⟩, ?_, ?_⟩, ?_, .nil, fm, fo, fp, fe, nae⟩
    · rw [upd_ne (ne hao5 fun k z => by cases z)]; exact hao5
    · rw [upd_ne (ne ham5 fun k z => by cases z)]; exact ham5
    · exact ndp5.keep (upd_ne (ne hap5 fun k z => by cases z)) t6
    · exact ne_of_none ham2 hao
    · rw [upd_ne (ne hae5 fun k z => by cases z)]; exact hae5
  generalize upd H5 fl (.dK (kvsF am ao ap ae)) = H6 at M0
  have hpl := paired_len hps
  -- for procedure, body in enumerate(bodies)
  refine ⟨_, rfl, ab, _, rfl, SqL.of (M0.s _ _ hab), ?_⟩
  refine for_it (walk_enum (K := K) (a := ab) (xs := ps.map V.ref)) (fun i σ H7 => ∃ (n2 n3 n4 n5 : Option V) (sti : LS) (esi : List Addr) (bgi : List Nat), σ = [some (.ref ab), some (.ref fl), n2, n3, n4, n5] ∧
    LFMid P w H H7 fl am ao ap ae sti esi bgi ∧ sti.wt ≤ 9003 * i ∧ layProcs En R d (bodies.drop i) i sti = layProcs En R d bodies 0 LS.nil ∧ bgi ++ begins En R d (bodies.drop i) i sti = begins En R d bodies 0 LS.nil) ?_ ?_ ?_ ?_
  · exact ⟨none, none, none, none, LS.nil, [], [], rfl, M0, Nat.le_refl 0, rfl, rfl⟩
  · rintro i σ H7 hi ⟨_, _, _, _, _, _, _, rfl, M, _⟩
    exact SqL.of (M.s _ _ hab)
  · rintro i y σ H7 H8 hi ⟨n2, n3, n4, n5, sti, esi, bgi, rfl, M, hw, hfin, hbg⟩ ⟨Tq, y1, y2, rfl, hT, rfl, e1, e2⟩
    cases e1
    obtain ⟨bp, hbp, rfl⟩ : ∃ bp, ps[i]? = some bp ∧ V.ref bp = y2 := by
      have e2' : (ps.map V.ref)[i]? = some y2 := e2
      rw [List.getElem?_map] at e2'
      exact Option.map_eq_some_iff.mp e2'
    obtain ⟨bd, hbd, hba⟩ := paired_at hps hbp
    have hmem : bd ∈ bodies := List.mem_of_getElem? hbd
    have hi6 : i < bodies.length := (List.getElem?_eq_some_iff.mp hbd).1
    have ed := drop_cons hbd
    rw [layProcs_drop ed] at hfin
    rw [ed] at hbg
    have hw54 : sti.wt ≤ 54018 := by
      have : 9003 * i ≤ 9003 * 5 := Nat.mul_le_mul_left _ (by omega)
      omega
    have hszb := hsz bd hmem
    have M8 := M.same (same_new hT (.tup [.int (i : Nat), .ref bp]))
    refine ⟨Tq, _, rfl, SqT.of upd_same, rfl, _, _, rfl, _, _, rfl, rfl, ?_⟩
    -- begin, end
    refine ⟨_, rfl, _, rfl, fl, am, ao, ap, ae, i, sti, rfl, M8.lf, M8.la, by omega, fun H9 L9 f9 => ?_⟩
    have M9 := M8.fr (L9 (R i)) f9
    have w9 := wt_next sti i (R i)
    have o9 : (sti.next i (R i)).own.length = sti.own.length + 1 := own_next
    refine ⟨_, rfl, _, rfl, fl, am, ao, ap, ae, i, sti.next i (R i), rfl, M9.lf, M9.la, by omega, fun H10 L10 f10 => ?_⟩
    have M10 := M9.fr (L10 (R i ∧ canB En d bd = true)) f10
    have w10 := wt_next (sti.next i (R i)) i (R i ∧ canB En d bd = true)
    rw [o9]
    have lb : esi.length ≤ 1000000 := by
      have h1 := congrArg List.length hbg
      rw [List.length_append, begins_len, begins_len] at h1
      have h2 := paired_len M10.pe
      omega
    -- ends.append((begin, end))
    refine ⟨_, rfl, fl, _, rfl, M10.lf.ends, .inl ⟨rfl, _, SqL.of M10.he⟩, _, rfl, _, rfl, by show 2 ≤ sizeLine; decide, fun p hp => ?_⟩
    have M11 := M10.same (same_new hp (.tup [vN sti.own.length, vN (sti.own.length + 1)]))
    refine ⟨ae, _, _, rfl, rfl, M11.he, lt_sizeLine (by rw [List.length_map]; exact lb), ?_⟩
    have M12 := M11.end_ (q := p) (x := sti.own.length) upd_same
    generalize upd (upd H10 p (.tup [vN sti.own.length, vN (sti.own.length + 1)])) ae (.lst (esi.map V.ref ++ [.ref p])) = H12 at M12
    -- lay_body(flow, procedure, body, begin, end, ())
    refine ⟨_, rfl, _, rfl, _, rfl, _, rfl, _, rfl, Nat.zero_le _, fun p1 hp1 => ?_⟩
    have M13 := M12.same (same_new hp1 (.tup []))
    refine ⟨En, R i, fl, am, ao, ap, ae, _, p1, bp, i, [], sti.own.length, sti.own.length + 1, bd, rfl, ⟨M13.lf, M13.la, by omega, upd_same⟩, BA_mono M13.s.tups hba, by show 0 + 2 * d + 1 ≤ 1000; omega, fun H14 L14 f14 => ?_⟩
    have M14 := M13.fr L14 f14
    have w14 := layOne_wt (E := En) (R := R) (d := d) (b := bd) (p := i) (st := sti)
    refine ⟨_, _, _, _, layOne En R d bd i sti, esi ++ [p], bgi ++ [sti.own.length], rfl, M14, by omega, hfin, ?_⟩
    rw [List.append_assoc]
    exact hbg
  · rintro σ H7 ⟨n2, n3, n4, n5, stn, esn, bgn, rfl, M, hw, hfin, hbg⟩
    have el : (ps.map V.ref).length = bodies.length := by rw [List.length_map, hpl]
    rw [el, List.drop_length] at hfin hbg
    have hst : stn = layProcs En R d bodies 0 LS.nil := hfin
    have hbgn : bgn = begins En R d bodies 0 LS.nil := by
      have z : bgn ++ [] = begins En R d bodies 0 LS.nil := hbg
      rw [List.append_nil] at z
      exact z
    rw [hst, hbgn] at M
    exact ⟨_, rfl, q H7 fl am ao ap ae esn M⟩
end
end Dp
namespace Dp
open PySem L2
open C8 (Cal Met Mak pe_c pe_mk pe_mt pe_mt0 pe_gc InsC call_isC)
def spCanT (d : Nat) : Sp := fun vs H Q _ => ∃ (bp ea : Addr) (b : List Stm) (E : List Nat), vs = [.ref bp, .ref ea] ∧ BA H d bp b ∧ H ea = some (.lst (E.map vN)) ∧ ∀ H', Same H H' → Q (.bl (canB E d b)) H'
def spCanL (d : Nat) : Sp := fun vs H Q _ => ∃ (bp ea : Addr) (b : List Stm) (E : List Nat), vs = [.ref bp, .ref ea] ∧ (∃ xs, H bp = some (.lst xs) ∧ Paired (SA H d) xs b) ∧ H ea = some (.lst (E.map vN)) ∧ ∀ H', Same H H' → Q (.bl (canB E d b)) H'
def spCanP : Nat → Sp
  | 0 => fun _ _ _ _ => False
  | n + 1 => spCanT n
section
variable {P : Program} {w : World} {K : PySem.W.Frag} {mg : Str → Option Value} {base : Heap} {kd pw CP CF : Addr} {f fB : Addr} {fd fdB : FuncData}
abbrev st_law_can_end : Stmt := top 61
abbrev N_law_can_end : List Str := ["_law_body_here", "_law_ending_here", "_law_statement_here", "_law_word"]
theorem sc_law_can_end : FnScope N_law_can_end ["_law_body_here", "_law_ending_here"] (defScope st_law_can_end) := ⟨rfl, rfl, rfl, by decide +kernel, rfl, by decide +kernel, by decide +kernel⟩
theorem ok_law_can_endT {d k : Nat} (F : GFun K mg "_law_can_end" st_law_can_end f fd) (T : Txt K w mg kd pw CP CF) (c_law_can_end : Cal P w K mg base k "_law_can_end" (spCanP d) []) : Cal P w K mg base (k + 1) "_law_can_end" (spCanT d) [] := by
  have b : Binds K fd ["_law_body_here", "_law_ending_here"] [] := F.fn.binds fun _ _ _ _ _ _ us hl => match us, hl with | [_, _], _ => rfl
  refine cal_of F b (F.fn.ok sc_law_can_end (fun vs H Q E h => ?_) (fun cdv A outer s H vs Q E hr h => ?_))
  · obtain ⟨_, _, _, _, rfl, _⟩ := h
    rfl
  obtain ⟨bp, ea, bd, En, rfl, ⟨xs, hbp, hx⟩, hea, q⟩ := h
  have hlen := paired_len hx
  refine ⟨_, ((pss_cons (ps_for PassesOwn.never rfl (pi_tup (pv 0)) (pg_name (i := 2) sc_law_can_end.nd rfl (Or.inl rfl))
  (pss_cons (ps_set (i := 3) sc_law_can_end.nd rfl (Or.inl rfl) (pe_ix ix_tup (pv 2) pe_int (fun _ _ => rfl)))
  (pss_cons (ps_if (PW.pt (pw_and (pt_cmpR op_eq (pv 3) pe_str (nomark _)) (pw_and1 (pt_cmpR op_notIn_seq (pe_ix ix_tup (pv 2) pe_int (fun _ _ => rfl)) (pv 1) (by rfl))))) (pss_one (ps_ret pe_bl)) pss_nil)
  (pss_cons (ps_if (pt_cmpR op_in_seq (pv 3) (pe_tup (pa_cons pe_str (pa_cons pe_str pa_nil))) (by rfl)) (pss_one (ps_if (PW.pt (pw_and (pt_not (pt_val (pe_c c_law_can_end hr (by omega) (by rfl) (pa_cons (pe_ix ix_tup (pv 2) (pe_un un_neg pe_int) (fun _ _ => rfl)) (pa_cons (pv 1) pa_nil))))) (pw_and1 (pt_not (pt_val (pe_c c_law_can_end hr (by omega) (by rfl) (pa_cons (pe_ix ix_tup (pv 2) (pe_un un_neg pe_int) (fun _ _ => rfl)) (pa_cons (pv 1) pa_nil)))))))) (pss_one (ps_ret pe_bl)) pss_nil)) pss_nil)
  (pss_one (ps_if (PW.pt (pw_and (pt_cmpR op_eq (pv 3) pe_str (nomark _)) (pw_and1 (pt_not (pt_val (pe_c c_law_can_end hr (by omega) (by rfl) (pa_cons (pe_ix ix_tup (pv 2) pe_int (fun _ _ => rfl)) (pa_cons (pv 1) pa_nil)))))))) (pss_one (ps_ret pe_bl)) pss_nil))))))
  (pss_one (ps_ret pe_bl)))), ?_⟩
  refine ⟨_, rfl, bp, rfl, ⟨_, SqT.of hbp⟩, ?_⟩
  refine for_it (walk_tup (K := K) (a := bp) (xs := xs)) (fun i σ H2 => ∃ (n2 n3 : Option V), σ = [some (.ref bp), some (.ref ea), n2, n3] ∧ Same H H2 ∧ (bd.take i).all (canS En d) = true) ⟨none, none, rfl, Same.refl H, rfl⟩ ?_ ?_ ?_
  · rintro i σ H2 hi ⟨_, _, rfl, s2, _⟩
    exact SqT.of (s2 _ _ hbp)
  · rintro i y σ H2 H2' hi ⟨n2, n3, rfl, s2, hall⟩ ⟨rfl, hy⟩
    obtain ⟨sm, hsm, hsa⟩ := paired_at hx hy
    obtain ⟨m, rfl⟩ : ∃ m, d = m + 1 := by
      cases d with
      | zero => exact hsa.elim
      | succ m => exact ⟨m, rfl⟩
    obtain ⟨a, ps, rfl, ha, hps⟩ := SA_view hsa
    have h0 : atI ((.str (word sm) :: (headOf sm ++ ps.map V.ref)) : List V) 0 = some (.str (word sm)) := at_of (j := 0) rfl rfl
    have stop : ∀ H5, Same H H5 → canS En (m + 1) sm = false → Q (.bl false) H5 := fun H5 s5 hc => by
      have hf : canB En (m + 1) bd = false := by
        apply Bool.eq_false_iff.mpr
        intro z
        have := List.all_eq_true.mp z sm (List.mem_of_getElem? hsm)
        rw [hc] at this
        cases this
      have z := q H5 s5
      rw [hf] at z
      exact z
    have step : ∀ (H5 : Hp), Same H H5 → canS En (m + 1) sm = true → (∃ (n2 n3 : Option V), [some (V.ref bp), some (.ref ea), some (.ref a), some (.str (word sm))] = [some (V.ref bp), some (.ref ea), n2, n3] ∧ Same H H5 ∧ (bd.take (i + 1)).all (canS En (m + 1)) = true) := fun H5 s5 hc => ⟨_, _, rfl, s5, by rw [List.take_add_one, hsm, List.all_append, hall]; simp [hc]⟩
    refine ⟨_, rfl, a, _, _, _, rfl, rfl, SqT.of (s2.tups _ _ ha), h0, ?_⟩
    cases sm with
    | skip =>
      refine ⟨_, rfl, rfl, _, rfl, ?_⟩
      rw [decide_eq_false (show ¬ V.str (word (.skip)) = V.str "call" from by show ¬ V.str "skip" = V.str "call"; decide +kernel)]
      refine iteF (iteF ?_)
      refine ⟨_, rfl, by show 2 ≤ sizeLine; decide, fun t1 ht1 => ?_⟩
      have s1 := same_new ht1 (.tup [.str "either", .str "when"])
      refine ⟨t1, _, rfl, .inr (SqT.of upd_same), rfl, rfl, _, rfl, ?_⟩
      rw [show (if false = true then !inV (.str (word (.skip))) [.str "either", .str "when"] else inV (.str (word (.skip))) [.str "either", .str "when"]) = false from by show inV (.str "skip") [.str "either", .str "when"] = false; decide +kernel]
      have s3 := same_trans s2 s1
      generalize upd H2' t1 (.tup [.str "either", .str "when"]) = H3 at s3
      refine iteF ?_
      refine ⟨_, rfl, rfl, _, rfl, ?_⟩
      rw [decide_eq_false (show ¬ V.str (word (.skip)) = V.str "hold" from by show ¬ V.str "skip" = V.str "hold"; decide +kernel)]
      refine iteF (iteF ?_)
      exact step _ s3 rfl
    | plain pw' n =>
      cases pw' with
      | touch =>
        refine ⟨_, rfl, rfl, _, rfl, ?_⟩
        rw [decide_eq_false (show ¬ V.str (word (.plain .touch n)) = V.str "call" from by show ¬ V.str "touch" = V.str "call"; decide +kernel)]
        refine iteF (iteF ?_)
        refine ⟨_, rfl, by show 2 ≤ sizeLine; decide, fun t1 ht1 => ?_⟩
        have s1 := same_new ht1 (.tup [.str "either", .str "when"])
        refine ⟨t1, _, rfl, .inr (SqT.of upd_same), rfl, rfl, _, rfl, ?_⟩
        rw [show (if false = true then !inV (.str (word (.plain .touch n))) [.str "either", .str "when"] else inV (.str (word (.plain .touch n))) [.str "either", .str "when"]) = false from by show inV (.str "touch") [.str "either", .str "when"] = false; decide +kernel]
        have s3 := same_trans s2 s1
        generalize upd H2' t1 (.tup [.str "either", .str "when"]) = H3 at s3
        refine iteF ?_
        refine ⟨_, rfl, rfl, _, rfl, ?_⟩
        rw [decide_eq_false (show ¬ V.str (word (.plain .touch n)) = V.str "hold" from by show ¬ V.str "touch" = V.str "hold"; decide +kernel)]
        refine iteF (iteF ?_)
        exact step _ s3 rfl
      | write =>
        refine ⟨_, rfl, rfl, _, rfl, ?_⟩
        rw [decide_eq_false (show ¬ V.str (word (.plain .write n)) = V.str "call" from by show ¬ V.str "write" = V.str "call"; decide +kernel)]
        refine iteF (iteF ?_)
        refine ⟨_, rfl, by show 2 ≤ sizeLine; decide, fun t1 ht1 => ?_⟩
        have s1 := same_new ht1 (.tup [.str "either", .str "when"])
        refine ⟨t1, _, rfl, .inr (SqT.of upd_same), rfl, rfl, _, rfl, ?_⟩
        rw [show (if false = true then !inV (.str (word (.plain .write n))) [.str "either", .str "when"] else inV (.str (word (.plain .write n))) [.str "either", .str "when"]) = false from by show inV (.str "write") [.str "either", .str "when"] = false; decide +kernel]
        have s3 := same_trans s2 s1
        generalize upd H2' t1 (.tup [.str "either", .str "when"]) = H3 at s3
        refine iteF ?_
        refine ⟨_, rfl, rfl, _, rfl, ?_⟩
        rw [decide_eq_false (show ¬ V.str (word (.plain .write n)) = V.str "hold" from by show ¬ V.str "write" = V.str "hold"; decide +kernel)]
        refine iteF (iteF ?_)
        exact step _ s3 rfl
      | mark =>
        refine ⟨_, rfl, rfl, _, rfl, ?_⟩
        rw [decide_eq_false (show ¬ V.str (word (.plain .mark n)) = V.str "call" from by show ¬ V.str "mark" = V.str "call"; decide +kernel)]
        refine iteF (iteF ?_)
        refine ⟨_, rfl, by show 2 ≤ sizeLine; decide, fun t1 ht1 => ?_⟩
        have s1 := same_new ht1 (.tup [.str "either", .str "when"])
        refine ⟨t1, _, rfl, .inr (SqT.of upd_same), rfl, rfl, _, rfl, ?_⟩
        rw [show (if false = true then !inV (.str (word (.plain .mark n))) [.str "either", .str "when"] else inV (.str (word (.plain .mark n))) [.str "either", .str "when"]) = false from by show inV (.str "mark") [.str "either", .str "when"] = false; decide +kernel]
        have s3 := same_trans s2 s1
        generalize upd H2' t1 (.tup [.str "either", .str "when"]) = H3 at s3
        refine iteF ?_
        refine ⟨_, rfl, rfl, _, rfl, ?_⟩
        rw [decide_eq_false (show ¬ V.str (word (.plain .mark n)) = V.str "hold" from by show ¬ V.str "mark" = V.str "hold"; decide +kernel)]
        refine iteF (iteF ?_)
        exact step _ s3 rfl
      | set =>
        refine ⟨_, rfl, rfl, _, rfl, ?_⟩
        rw [decide_eq_false (show ¬ V.str (word (.plain .set n)) = V.str "call" from by show ¬ V.str "set" = V.str "call"; decide +kernel)]
        refine iteF (iteF ?_)
        refine ⟨_, rfl, by show 2 ≤ sizeLine; decide, fun t1 ht1 => ?_⟩
        have s1 := same_new ht1 (.tup [.str "either", .str "when"])
        refine ⟨t1, _, rfl, .inr (SqT.of upd_same), rfl, rfl, _, rfl, ?_⟩
        rw [show (if false = true then !inV (.str (word (.plain .set n))) [.str "either", .str "when"] else inV (.str (word (.plain .set n))) [.str "either", .str "when"]) = false from by show inV (.str "set") [.str "either", .str "when"] = false; decide +kernel]
        have s3 := same_trans s2 s1
        generalize upd H2' t1 (.tup [.str "either", .str "when"]) = H3 at s3
        refine iteF ?_
        refine ⟨_, rfl, rfl, _, rfl, ?_⟩
        rw [decide_eq_false (show ¬ V.str (word (.plain .set n)) = V.str "hold" from by show ¬ V.str "set" = V.str "hold"; decide +kernel)]
        refine iteF (iteF ?_)
        exact step _ s3 rfl
      | claim =>
        refine ⟨_, rfl, rfl, _, rfl, ?_⟩
        rw [decide_eq_false (show ¬ V.str (word (.plain .claim n)) = V.str "call" from by show ¬ V.str "claim" = V.str "call"; decide +kernel)]
        refine iteF (iteF ?_)
        refine ⟨_, rfl, by show 2 ≤ sizeLine; decide, fun t1 ht1 => ?_⟩
        have s1 := same_new ht1 (.tup [.str "either", .str "when"])
        refine ⟨t1, _, rfl, .inr (SqT.of upd_same), rfl, rfl, _, rfl, ?_⟩
        rw [show (if false = true then !inV (.str (word (.plain .claim n))) [.str "either", .str "when"] else inV (.str (word (.plain .claim n))) [.str "either", .str "when"]) = false from by show inV (.str "claim") [.str "either", .str "when"] = false; decide +kernel]
        have s3 := same_trans s2 s1
        generalize upd H2' t1 (.tup [.str "either", .str "when"]) = H3 at s3
        refine iteF ?_
        refine ⟨_, rfl, rfl, _, rfl, ?_⟩
        rw [decide_eq_false (show ¬ V.str (word (.plain .claim n)) = V.str "hold" from by show ¬ V.str "claim" = V.str "hold"; decide +kernel)]
        refine iteF (iteF ?_)
        exact step _ s3 rfl
      | call =>
        refine ⟨_, rfl, rfl, _, rfl, ?_⟩
        rw [decide_eq_true (show V.str (word (.plain .call n)) = V.str "call" from rfl)]
        refine iteT ⟨_, rfl, a, _, _, _, rfl, rfl, SqT.of (s2.tups _ _ ha), (show atI _ 1 = some (vN n) from at_of (j := 1) rfl rfl), _, rfl, ea, _, rfl, .inl (SqL.of (s2 _ _ hea)), rfl, all_flat_vN En, _, rfl, ?_⟩
        rw [inV_vN']
        by_cases hin : n ∈ En
        · rw [decide_eq_true hin]
          refine iteF ?_
          refine ⟨_, rfl, by show 2 ≤ sizeLine; decide, fun t1 ht1 => ?_⟩
          have s1 := same_new ht1 (.tup [.str "either", .str "when"])
          refine ⟨t1, _, rfl, .inr (SqT.of upd_same), rfl, rfl, _, rfl, ?_⟩
          rw [show (if false = true then !inV (.str (word (.plain .call n))) [.str "either", .str "when"] else inV (.str (word (.plain .call n))) [.str "either", .str "when"]) = false from by show inV (.str "call") [.str "either", .str "when"] = false; decide +kernel]
          have s3 := same_trans s2 s1
          generalize upd H2' t1 (.tup [.str "either", .str "when"]) = H3 at s3
          refine iteF ?_
          refine ⟨_, rfl, rfl, _, rfl, ?_⟩
          rw [decide_eq_false (show ¬ V.str (word (.plain .call n)) = V.str "hold" from by show ¬ V.str "call" = V.str "hold"; decide +kernel)]
          refine iteF (iteF ?_)
          exact step _ s3 (by show (if PW.call = PW.call then decide (n ∈ En) else true) = true; rw [if_pos rfl]; exact decide_eq_true hin)
        · rw [decide_eq_false hin]
          refine iteT ?_
          exact stop _ s2 (by show (if PW.call = PW.call then decide (n ∈ En) else true) = false; rw [if_pos rfl]; exact decide_eq_false hin)
    | hold lk body =>
      refine ⟨_, rfl, rfl, _, rfl, ?_⟩
      rw [decide_eq_false (show ¬ V.str (word (.hold lk body)) = V.str "call" from by show ¬ V.str "hold" = V.str "call"; decide +kernel)]
      refine iteF (iteF ?_)
      refine ⟨_, rfl, by show 2 ≤ sizeLine; decide, fun t1 ht1 => ?_⟩
      have s1 := same_new ht1 (.tup [.str "either", .str "when"])
      refine ⟨t1, _, rfl, .inr (SqT.of upd_same), rfl, rfl, _, rfl, ?_⟩
      rw [show (if false = true then !inV (.str (word (.hold lk body))) [.str "either", .str "when"] else inV (.str (word (.hold lk body))) [.str "either", .str "when"]) = false from by show inV (.str "hold") [.str "either", .str "when"] = false; decide +kernel]
      have s3 := same_trans s2 s1
      generalize upd H2' t1 (.tup [.str "either", .str "when"]) = H3 at s3
      refine iteF ?_
      refine ⟨_, rfl, rfl, _, rfl, ?_⟩
      rw [decide_eq_true (show V.str (word (.hold lk body)) = V.str "hold" from rfl)]
      cases hps with
      | @cons bp2 _ _ _ hB hnil =>
      cases hnil
      refine iteT ⟨_, rfl, a, _, _, _, rfl, rfl, SqT.of (s3.tups _ _ ha), at_of (j := 2) rfl rfl, _, rfl, bp2, ea, body, En, rfl, BA_mono s3.tups hB, s3 _ _ hea, fun H4 s4 => ⟨_, rfl, ?_⟩⟩
      have s5 := same_trans s3 s4
      by_cases hc : canB En m body = true
      · rw [hc]
        refine iteF ?_
        exact step _ s5 hc
      · rw [show canB En m body = false from by simpa using hc]
        refine iteT ?_
        exact stop _ s5 (by show body.all (canS En m) = false; simpa using hc)
    | either b1 b2 =>
      refine ⟨_, rfl, rfl, _, rfl, ?_⟩
      rw [decide_eq_false (show ¬ V.str (word (.either b1 b2)) = V.str "call" from by show ¬ V.str "either" = V.str "call"; decide +kernel)]
      refine iteF (iteF ?_)
      refine ⟨_, rfl, by show 2 ≤ sizeLine; decide, fun t1 ht1 => ?_⟩
      have s1 := same_new ht1 (.tup [.str "either", .str "when"])
      refine ⟨t1, _, rfl, .inr (SqT.of upd_same), rfl, rfl, _, rfl, ?_⟩
      rw [show (if false = true then !inV (.str (word (.either b1 b2))) [.str "either", .str "when"] else inV (.str (word (.either b1 b2))) [.str "either", .str "when"]) = true from by show inV (.str "either") [.str "either", .str "when"] = true; decide +kernel]
      have s3 := same_trans s2 s1
      generalize upd H2' t1 (.tup [.str "either", .str "when"]) = H3 at s3
      cases hps with
      | @cons p1 _ _ _ hB1 hps2 =>
      cases hps2 with
      | @cons p2 _ _ _ hB2 hps3 =>
      cases hps3
      refine iteT ⟨_, rfl, _, rfl, a, _, _, _, rfl, rfl, SqT.of (s3.tups _ _ ha), (show atI _ (-2) = some (.ref p1) from rfl), _, rfl, p1, ea, b1, En, rfl, BA_mono s3.tups hB1, s3 _ _ hea, fun H4 s4 => ⟨_, rfl, ?_⟩⟩
      have s5 := same_trans s3 s4
      by_cases hc1 : canB En m b1 = true
      · rw [hc1]
        refine iteF (iteF ?_)
        refine ⟨_, rfl, rfl, _, rfl, ?_⟩
        rw [decide_eq_false (show ¬ V.str (word (.either b1 b2)) = V.str "hold" from by show ¬ V.str "either" = V.str "hold"; decide +kernel)]
        refine iteF (iteF ?_)
        exact step _ s5 (by show (b1.all (canS En m) || b2.all (canS En m)) = true; rw [show b1.all (canS En m) = true from hc1]; rfl)
      · rw [show canB En m b1 = false from by simpa using hc1]
        refine iteT ⟨_, rfl, _, rfl, a, _, _, _, rfl, rfl, SqT.of (s5.tups _ _ ha), (show atI _ (-1) = some (.ref p2) from rfl), _, rfl, p2, ea, b2, En, rfl, BA_mono s5.tups hB2, s5 _ _ hea, fun H6 s6 => ⟨_, rfl, ?_⟩⟩
        have s7 := same_trans s5 s6
        by_cases hc2 : canB En m b2 = true
        · rw [hc2]
          refine iteF ?_
          refine ⟨_, rfl, rfl, _, rfl, ?_⟩
          rw [decide_eq_false (show ¬ V.str (word (.either b1 b2)) = V.str "hold" from by show ¬ V.str "either" = V.str "hold"; decide +kernel)]
          refine iteF (iteF ?_)
          exact step _ s7 (by show (b1.all (canS En m) || b2.all (canS En m)) = true; rw [show b2.all (canS En m) = true from hc2, Bool.or_true])
        · rw [show canB En m b2 = false from by simpa using hc2]
          refine iteT ?_
          exact stop _ s7 (by show (b1.all (canS En m) || b2.all (canS En m)) = false; rw [show b1.all (canS En m) = false from by simpa using hc1, show b2.all (canS En m) = false from by simpa using hc2]; rfl)
    | when c b1 b2 =>
      refine ⟨_, rfl, rfl, _, rfl, ?_⟩
      rw [decide_eq_false (show ¬ V.str (word (.when c b1 b2)) = V.str "call" from by show ¬ V.str "when" = V.str "call"; decide +kernel)]
      refine iteF (iteF ?_)
      refine ⟨_, rfl, by show 2 ≤ sizeLine; decide, fun t1 ht1 => ?_⟩
      have s1 := same_new ht1 (.tup [.str "either", .str "when"])
      refine ⟨t1, _, rfl, .inr (SqT.of upd_same), rfl, rfl, _, rfl, ?_⟩
      rw [show (if false = true then !inV (.str (word (.when c b1 b2))) [.str "either", .str "when"] else inV (.str (word (.when c b1 b2))) [.str "either", .str "when"]) = true from by show inV (.str "when") [.str "either", .str "when"] = true; decide +kernel]
      have s3 := same_trans s2 s1
      generalize upd H2' t1 (.tup [.str "either", .str "when"]) = H3 at s3
      cases hps with
      | @cons p1 _ _ _ hB1 hps2 =>
      cases hps2 with
      | @cons p2 _ _ _ hB2 hps3 =>
      cases hps3
      refine iteT ⟨_, rfl, _, rfl, a, _, _, _, rfl, rfl, SqT.of (s3.tups _ _ ha), (show atI _ (-2) = some (.ref p1) from rfl), _, rfl, p1, ea, b1, En, rfl, BA_mono s3.tups hB1, s3 _ _ hea, fun H4 s4 => ⟨_, rfl, ?_⟩⟩
      have s5 := same_trans s3 s4
      by_cases hc1 : canB En m b1 = true
      · rw [hc1]
        refine iteF (iteF ?_)
        refine ⟨_, rfl, rfl, _, rfl, ?_⟩
        rw [decide_eq_false (show ¬ V.str (word (.when c b1 b2)) = V.str "hold" from by show ¬ V.str "when" = V.str "hold"; decide +kernel)]
        refine iteF (iteF ?_)
        exact step _ s5 (by show (b1.all (canS En m) || b2.all (canS En m)) = true; rw [show b1.all (canS En m) = true from hc1]; rfl)
      · rw [show canB En m b1 = false from by simpa using hc1]
        refine iteT ⟨_, rfl, _, rfl, a, _, _, _, rfl, rfl, SqT.of (s5.tups _ _ ha), (show atI _ (-1) = some (.ref p2) from rfl), _, rfl, p2, ea, b2, En, rfl, BA_mono s5.tups hB2, s5 _ _ hea, fun H6 s6 => ⟨_, rfl, ?_⟩⟩
        have s7 := same_trans s5 s6
        by_cases hc2 : canB En m b2 = true
        · rw [hc2]
          refine iteF ?_
          refine ⟨_, rfl, rfl, _, rfl, ?_⟩
          rw [decide_eq_false (show ¬ V.str (word (.when c b1 b2)) = V.str "hold" from by show ¬ V.str "when" = V.str "hold"; decide +kernel)]
          refine iteF (iteF ?_)
          exact step _ s7 (by show (b1.all (canS En m) || b2.all (canS En m)) = true; rw [show b2.all (canS En m) = true from hc2, Bool.or_true])
        · rw [show canB En m b2 = false from by simpa using hc2]
          refine iteT ?_
          exact stop _ s7 (by show (b1.all (canS En m) || b2.all (canS En m)) = false; rw [show b1.all (canS En m) = false from by simpa using hc1, show b2.all (canS En m) = false from by simpa using hc2]; rfl)
    | loop body =>
      refine ⟨_, rfl, rfl, _, rfl, ?_⟩
      rw [decide_eq_false (show ¬ V.str (word (.loop body)) = V.str "call" from by show ¬ V.str "loop" = V.str "call"; decide +kernel)]
      refine iteF (iteF ?_)
      refine ⟨_, rfl, by show 2 ≤ sizeLine; decide, fun t1 ht1 => ?_⟩
      have s1 := same_new ht1 (.tup [.str "either", .str "when"])
      refine ⟨t1, _, rfl, .inr (SqT.of upd_same), rfl, rfl, _, rfl, ?_⟩
      rw [show (if false = true then !inV (.str (word (.loop body))) [.str "either", .str "when"] else inV (.str (word (.loop body))) [.str "either", .str "when"]) = false from by show inV (.str "loop") [.str "either", .str "when"] = false; decide +kernel]
      have s3 := same_trans s2 s1
      generalize upd H2' t1 (.tup [.str "either", .str "when"]) = H3 at s3
      refine iteF ?_
      refine ⟨_, rfl, rfl, _, rfl, ?_⟩
      rw [decide_eq_false (show ¬ V.str (word (.loop body)) = V.str "hold" from by show ¬ V.str "loop" = V.str "hold"; decide +kernel)]
      refine iteF (iteF ?_)
      exact step _ s3 rfl
  · rintro σ H2 ⟨n2, n3, rfl, s2, hall⟩
    have e : bd.take xs.length = bd := by rw [hlen, List.take_length]
    rw [e] at hall
    have z := q H2 s2
    rw [show canB En d bd = true from hall] at z
    exact z
theorem ok_law_can_endL {d k : Nat} (F : GFun K mg "_law_can_end" st_law_can_end f fd) (T : Txt K w mg kd pw CP CF) (c_law_can_end : Cal P w K mg base k "_law_can_end" (spCanP d) []) : Cal P w K mg base (k + 1) "_law_can_end" (spCanL d) [] := by
  have b : Binds K fd ["_law_body_here", "_law_ending_here"] [] := F.fn.binds fun _ _ _ _ _ _ us hl => match us, hl with | [_, _], _ => rfl
  refine cal_of F b (F.fn.ok sc_law_can_end (fun vs H Q E h => ?_) (fun cdv A outer s H vs Q E hr h => ?_))
  · obtain ⟨_, _, _, _, rfl, _⟩ := h
    rfl
  obtain ⟨bp, ea, bd, En, rfl, ⟨xs, hbp, hx⟩, hea, q⟩ := h
  have hlen := paired_len hx
  refine ⟨_, ((pss_cons (ps_for PassesOwn.never rfl (pi_list (pv 0)) (pg_name (i := 2) sc_law_can_end.nd rfl (Or.inl rfl))
  (pss_cons (ps_set (i := 3) sc_law_can_end.nd rfl (Or.inl rfl) (pe_ix ix_tup (pv 2) pe_int (fun _ _ => rfl)))
  (pss_cons (ps_if (PW.pt (pw_and (pt_cmpR op_eq (pv 3) pe_str (nomark _)) (pw_and1 (pt_cmpR op_notIn_seq (pe_ix ix_tup (pv 2) pe_int (fun _ _ => rfl)) (pv 1) (by rfl))))) (pss_one (ps_ret pe_bl)) pss_nil)
  (pss_cons (ps_if (pt_cmpR op_in_seq (pv 3) (pe_tup (pa_cons pe_str (pa_cons pe_str pa_nil))) (by rfl)) (pss_one (ps_if (PW.pt (pw_and (pt_not (pt_val (pe_c c_law_can_end hr (by omega) (by rfl) (pa_cons (pe_ix ix_tup (pv 2) (pe_un un_neg pe_int) (fun _ _ => rfl)) (pa_cons (pv 1) pa_nil))))) (pw_and1 (pt_not (pt_val (pe_c c_law_can_end hr (by omega) (by rfl) (pa_cons (pe_ix ix_tup (pv 2) (pe_un un_neg pe_int) (fun _ _ => rfl)) (pa_cons (pv 1) pa_nil)))))))) (pss_one (ps_ret pe_bl)) pss_nil)) pss_nil)
  (pss_one (ps_if (PW.pt (pw_and (pt_cmpR op_eq (pv 3) pe_str (nomark _)) (pw_and1 (pt_not (pt_val (pe_c c_law_can_end hr (by omega) (by rfl) (pa_cons (pe_ix ix_tup (pv 2) pe_int (fun _ _ => rfl)) (pa_cons (pv 1) pa_nil)))))))) (pss_one (ps_ret pe_bl)) pss_nil))))))
  (pss_one (ps_ret pe_bl)))), ?_⟩
  refine ⟨_, rfl, bp, rfl, ⟨_, SqL.of hbp⟩, ?_⟩
  refine for_it (L2.walk_list (K := K) (a := bp) (xs := xs)) (fun i σ H2 => ∃ (n2 n3 : Option V), σ = [some (.ref bp), some (.ref ea), n2, n3] ∧ Same H H2 ∧ (bd.take i).all (canS En d) = true) ⟨none, none, rfl, Same.refl H, rfl⟩ ?_ ?_ ?_
  · rintro i σ H2 hi ⟨_, _, rfl, s2, _⟩
    exact SqL.of (s2 _ _ hbp)
  · rintro i y σ H2 H2' hi ⟨n2, n3, rfl, s2, hall⟩ ⟨rfl, hy⟩
    obtain ⟨sm, hsm, hsa⟩ := paired_at hx hy
    obtain ⟨m, rfl⟩ : ∃ m, d = m + 1 := by
      cases d with
      | zero => exact hsa.elim
      | succ m => exact ⟨m, rfl⟩
    obtain ⟨a, ps, rfl, ha, hps⟩ := SA_view hsa
    have h0 : atI ((.str (word sm) :: (headOf sm ++ ps.map V.ref)) : List V) 0 = some (.str (word sm)) := at_of (j := 0) rfl rfl
    have stop : ∀ H5, Same H H5 → canS En (m + 1) sm = false → Q (.bl false) H5 := fun H5 s5 hc => by
      have hf : canB En (m + 1) bd = false := by
        apply Bool.eq_false_iff.mpr
        intro z
        have := List.all_eq_true.mp z sm (List.mem_of_getElem? hsm)
        rw [hc] at this
        cases this
      have z := q H5 s5
      rw [hf] at z
      exact z
    have step : ∀ (H5 : Hp), Same H H5 → canS En (m + 1) sm = true → (∃ (n2 n3 : Option V), [some (V.ref bp), some (.ref ea), some (.ref a), some (.str (word sm))] = [some (V.ref bp), some (.ref ea), n2, n3] ∧ Same H H5 ∧ (bd.take (i + 1)).all (canS En (m + 1)) = true) := fun H5 s5 hc => ⟨_, _, rfl, s5, by rw [List.take_add_one, hsm, List.all_append, hall]; simp [hc]⟩
    refine ⟨_, rfl, a, _, _, _, rfl, rfl, SqT.of (s2.tups _ _ ha), h0, ?_⟩
    cases sm with
    | skip =>
      refine ⟨_, rfl, rfl, _, rfl, ?_⟩
      rw [decide_eq_false (show ¬ V.str (word (.skip)) = V.str "call" from by show ¬ V.str "skip" = V.str "call"; decide +kernel)]
      refine iteF (iteF ?_)
      refine ⟨_, rfl, by show 2 ≤ sizeLine; decide, fun t1 ht1 => ?_⟩
      have s1 := same_new ht1 (.tup [.str "either", .str "when"])
      refine ⟨t1, _, rfl, .inr (SqT.of upd_same), rfl, rfl, _, rfl, ?_⟩
      rw [show (if false = true then !inV (.str (word (.skip))) [.str "either", .str "when"] else inV (.str (word (.skip))) [.str "either", .str "when"]) = false from by show inV (.str "skip") [.str "either", .str "when"] = false; decide +kernel]
      have s3 := same_trans s2 s1
      generalize upd H2' t1 (.tup [.str "either", .str "when"]) = H3 at s3
      refine iteF ?_
      refine ⟨_, rfl, rfl, _, rfl, ?_⟩
      rw [decide_eq_false (show ¬ V.str (word (.skip)) = V.str "hold" from by show ¬ V.str "skip" = V.str "hold"; decide +kernel)]
      refine iteF (iteF ?_)
      exact step _ s3 rfl
    | plain pw' n =>
      cases pw' with
      | touch =>
        refine ⟨_, rfl, rfl, _, rfl, ?_⟩
        rw [decide_eq_false (show ¬ V.str (word (.plain .touch n)) = V.str "call" from by show ¬ V.str "touch" = V.str "call"; decide +kernel)]
        refine iteF (iteF ?_)
        refine ⟨_, rfl, by show 2 ≤ sizeLine; decide, fun t1 ht1 => ?_⟩
        have s1 := same_new ht1 (.tup [.str "either", .str "when"])
        refine ⟨t1, _, rfl, .inr (SqT.of upd_same), rfl, rfl, _, rfl, ?_⟩
        rw [show (if false = true then !inV (.str (word (.plain .touch n))) [.str "either", .str "when"] else inV (.str (word (.plain .touch n))) [.str "either", .str "when"]) = false from by show inV (.str "touch") [.str "either", .str "when"] = false; decide +kernel]
        have s3 := same_trans s2 s1
        generalize upd H2' t1 (.tup [.str "either", .str "when"]) = H3 at s3
        refine iteF ?_
        refine ⟨_, rfl, rfl, _, rfl, ?_⟩
        rw [decide_eq_false (show ¬ V.str (word (.plain .touch n)) = V.str "hold" from by show ¬ V.str "touch" = V.str "hold"; decide +kernel)]
        refine iteF (iteF ?_)
        exact step _ s3 rfl
      | write =>
        refine ⟨_, rfl, rfl, _, rfl, ?_⟩
        rw [decide_eq_false (show ¬ V.str (word (.plain .write n)) = V.str "call" from by show ¬ V.str "write" = V.str "call"; decide +kernel)]
        refine iteF (iteF ?_)
        refine ⟨_, rfl, by show 2 ≤ sizeLine; decide, fun t1 ht1 => ?_⟩
        have s1 := same_new ht1 (.tup [.str "either", .str "when"])
        refine ⟨t1, _, rfl, .inr (SqT.of upd_same), rfl, rfl, _, rfl, ?_⟩
        rw [show (if false = true then !inV (.str (word (.plain .write n))) [.str "either", .str "when"] else inV (.str (word (.plain .write n))) [.str "either", .str "when"]) = false from by show inV (.str "write") [.str "either", .str "when"] = false; decide +kernel]
        have s3 := same_trans s2 s1
        generalize upd H2' t1 (.tup [.str "either", .str "when"]) = H3 at s3
        refine iteF ?_
        refine ⟨_, rfl, rfl, _, rfl, ?_⟩
        rw [decide_eq_false (show ¬ V.str (word (.plain .write n)) = V.str "hold" from by show ¬ V.str "write" = V.str "hold"; decide +kernel)]
        refine iteF (iteF ?_)
        exact step _ s3 rfl
      | mark =>
        refine ⟨_, rfl, rfl, _, rfl, ?_⟩
        rw [decide_eq_false (show ¬ V.str (word (.plain .mark n)) = V.str "call" from by show ¬ V.str "mark" = V.str "call"; decide +kernel)]
        refine iteF (iteF ?_)
        refine ⟨_, rfl, by show 2 ≤ sizeLine; decide, fun t1 ht1 => ?_⟩
        have s1 := same_new ht1 (.tup [.str "either", .str "when"])
        refine ⟨t1, _, rfl, .inr (SqT.of upd_same), rfl, rfl, _, rfl, ?_⟩
        rw [show (if false = true then !inV (.str (word (.plain .mark n))) [.str "either", .str "when"] else inV (.str (word (.plain .mark n))) [.str "either", .str "when"]) = false from by show inV (.str "mark") [.str "either", .str "when"] = false; decide +kernel]
        have s3 := same_trans s2 s1
        generalize upd H2' t1 (.tup [.str "either", .str "when"]) = H3 at s3
        refine iteF ?_
        refine ⟨_, rfl, rfl, _, rfl, ?_⟩
        rw [decide_eq_false (show ¬ V.str (word (.plain .mark n)) = V.str "hold" from by show ¬ V.str "mark" = V.str "hold"; decide +kernel)]
        refine iteF (iteF ?_)
        exact step _ s3 rfl
      | set =>
        refine ⟨_, rfl, rfl, _, rfl, ?_⟩
        rw [decide_eq_false (show ¬ V.str (word (.plain .set n)) = V.str "call" from by show ¬ V.str "set" = V.str "call"; decide +kernel)]
        refine iteF (iteF ?_)
        refine ⟨_, rfl, by show 2 ≤ sizeLine; decide, fun t1 ht1 => ?_⟩
        have s1 := same_new ht1 (.tup [.str "either", .str "when"])
        refine ⟨t1, _, rfl, .inr (SqT.of upd_same), rfl, rfl, _, rfl, ?_⟩
        rw [show (if false = true then !inV (.str (word (.plain .set n))) [.str "either", .str "when"] else inV (.str (word (.plain .set n))) [.str "either", .str "when"]) = false from by show inV (.str "set") [.str "either", .str "when"] = false; decide +kernel]
        have s3 := same_trans s2 s1
        generalize upd H2' t1 (.tup [.str "either", .str "when"]) = H3 at s3
        refine iteF ?_
        refine ⟨_, rfl, rfl, _, rfl, ?_⟩
        rw [decide_eq_false (show ¬ V.str (word (.plain .set n)) = V.str "hold" from by show ¬ V.str "set" = V.str "hold"; decide +kernel)]
        refine iteF (iteF ?_)
        exact step _ s3 rfl
      | claim =>
        refine ⟨_, rfl, rfl, _, rfl, ?_⟩
        rw [decide_eq_false (show ¬ V.str (word (.plain .claim n)) = V.str "call" from by show ¬ V.str "claim" = V.str "call"; decide +kernel)]
        refine iteF (iteF ?_)
        refine ⟨_, rfl, by show 2 ≤ sizeLine; decide, fun t1 ht1 => ?_⟩
        have s1 := same_new ht1 (.tup [.str "either", .str "when"])
        refine ⟨t1, _, rfl, .inr (SqT.of upd_same), rfl, rfl, _, rfl, ?_⟩
        rw [show (if false = true then !inV (.str (word (.plain .claim n))) [.str "either", .str "when"] else inV (.str (word (.plain .claim n))) [.str "either", .str "when"]) = false from by show inV (.str "claim") [.str "either", .str "when"] = false; decide +kernel]
        have s3 := same_trans s2 s1
        generalize upd H2' t1 (.tup [.str "either", .str "when"]) = H3 at s3
        refine iteF ?_
        refine ⟨_, rfl, rfl, _, rfl, ?_⟩
        rw [decide_eq_false (show ¬ V.str (word (.plain .claim n)) = V.str "hold" from by show ¬ V.str "claim" = V.str "hold"; decide +kernel)]
        refine iteF (iteF ?_)
        exact step _ s3 rfl
      | call =>
        refine ⟨_, rfl, rfl, _, rfl, ?_⟩
        rw [decide_eq_true (show V.str (word (.plain .call n)) = V.str "call" from rfl)]
        refine iteT ⟨_, rfl, a, _, _, _, rfl, rfl, SqT.of (s2.tups _ _ ha), (show atI _ 1 = some (vN n) from at_of (j := 1) rfl rfl), _, rfl, ea, _, rfl, .inl (SqL.of (s2 _ _ hea)), rfl, all_flat_vN En, _, rfl, ?_⟩
        rw [inV_vN']
        by_cases hin : n ∈ En
        · rw [decide_eq_true hin]
          refine iteF ?_
          refine ⟨_, rfl, by show 2 ≤ sizeLine; decide, fun t1 ht1 => ?_⟩
          have s1 := same_new ht1 (.tup [.str "either", .str "when"])
          refine ⟨t1, _, rfl, .inr (SqT.of upd_same), rfl, rfl, _, rfl, ?_⟩
          rw [show (if false = true then !inV (.str (word (.plain .call n))) [.str "either", .str "when"] else inV (.str (word (.plain .call n))) [.str "either", .str "when"]) = false from by show inV (.str "call") [.str "either", .str "when"] = false; decide +kernel]
          have s3 := same_trans s2 s1
          generalize upd H2' t1 (.tup [.str "either", .str "when"]) = H3 at s3
          refine iteF ?_
          refine ⟨_, rfl, rfl, _, rfl, ?_⟩
          rw [decide_eq_false (show ¬ V.str (word (.plain .call n)) = V.str "hold" from by show ¬ V.str "call" = V.str "hold"; decide +kernel)]
          refine iteF (iteF ?_)
          exact step _ s3 (by show (if PW.call = PW.call then decide (n ∈ En) else true) = true; rw [if_pos rfl]; exact decide_eq_true hin)
        · rw [decide_eq_false hin]
          refine iteT ?_
          exact stop _ s2 (by show (if PW.call = PW.call then decide (n ∈ En) else true) = false; rw [if_pos rfl]; exact decide_eq_false hin)
    | hold lk body =>
      refine ⟨_, rfl, rfl, _, rfl, ?_⟩
      rw [decide_eq_false (show ¬ V.str (word (.hold lk body)) = V.str "call" from by show ¬ V.str "hold" = V.str "call"; decide +kernel)]
      refine iteF (iteF ?_)
      refine ⟨_, rfl, by show 2 ≤ sizeLine; decide, fun t1 ht1 => ?_⟩
      have s1 := same_new ht1 (.tup [.str "either", .str "when"])
      refine ⟨t1, _, rfl, .inr (SqT.of upd_same), rfl, rfl, _, rfl, ?_⟩
      rw [show (if false = true then !inV (.str (word (.hold lk body))) [.str "either", .str "when"] else inV (.str (word (.hold lk body))) [.str "either", .str "when"]) = false from by show inV (.str "hold") [.str "either", .str "when"] = false; decide +kernel]
      have s3 := same_trans s2 s1
      generalize upd H2' t1 (.tup [.str "either", .str "when"]) = H3 at s3
      refine iteF ?_
      refine ⟨_, rfl, rfl, _, rfl, ?_⟩
      rw [decide_eq_true (show V.str (word (.hold lk body)) = V.str "hold" from rfl)]
      cases hps with
      | @cons bp2 _ _ _ hB hnil =>
      cases hnil
      refine iteT ⟨_, rfl, a, _, _, _, rfl, rfl, SqT.of (s3.tups _ _ ha), at_of (j := 2) rfl rfl, _, rfl, bp2, ea, body, En, rfl, BA_mono s3.tups hB, s3 _ _ hea, fun H4 s4 => ⟨_, rfl, ?_⟩⟩
      have s5 := same_trans s3 s4
      by_cases hc : canB En m body = true
      · rw [hc]
        refine iteF ?_
        exact step _ s5 hc
      · rw [show canB En m body = false from by simpa using hc]
        refine iteT ?_
        exact stop _ s5 (by show body.all (canS En m) = false; simpa using hc)
    | either b1 b2 =>
      refine ⟨_, rfl, rfl, _, rfl, ?_⟩
      rw [decide_eq_false (show ¬ V.str (word (.either b1 b2)) = V.str "call" from by show ¬ V.str "either" = V.str "call"; decide +kernel)]
      refine iteF (iteF ?_)
      refine ⟨_, rfl, by show 2 ≤ sizeLine; decide, fun t1 ht1 => ?_⟩
      have s1 := same_new ht1 (.tup [.str "either", .str "when"])
      refine ⟨t1, _, rfl, .inr (SqT.of upd_same), rfl, rfl, _, rfl, ?_⟩
      rw [show (if false = true then !inV (.str (word (.either b1 b2))) [.str "either", .str "when"] else inV (.str (word (.either b1 b2))) [.str "either", .str "when"]) = true from by show inV (.str "either") [.str "either", .str "when"] = true; decide +kernel]
      have s3 := same_trans s2 s1
      generalize upd H2' t1 (.tup [.str "either", .str "when"]) = H3 at s3
      cases hps with
      | @cons p1 _ _ _ hB1 hps2 =>
      cases hps2 with
      | @cons p2 _ _ _ hB2 hps3 =>
      cases hps3
      refine iteT ⟨_, rfl, _, rfl, a, _, _, _, rfl, rfl, SqT.of (s3.tups _ _ ha), (show atI _ (-2) = some (.ref p1) from rfl), _, rfl, p1, ea, b1, En, rfl, BA_mono s3.tups hB1, s3 _ _ hea, fun H4 s4 => ⟨_, rfl, ?_⟩⟩
      have s5 := same_trans s3 s4
      by_cases hc1 : canB En m b1 = true
      · rw [hc1]
        refine iteF (iteF ?_)
        refine ⟨_, rfl, rfl, _, rfl, ?_⟩
        rw [decide_eq_false (show ¬ V.str (word (.either b1 b2)) = V.str "hold" from by show ¬ V.str "either" = V.str "hold"; decide +kernel)]
        refine iteF (iteF ?_)
        exact step _ s5 (by show (b1.all (canS En m) || b2.all (canS En m)) = true; rw [show b1.all (canS En m) = true from hc1]; rfl)
      · rw [show canB En m b1 = false from by simpa using hc1]
        refine iteT ⟨_, rfl, _, rfl, a, _, _, _, rfl, rfl, SqT.of (s5.tups _ _ ha), (show atI _ (-1) = some (.ref p2) from rfl), _, rfl, p2, ea, b2, En, rfl, BA_mono s5.tups hB2, s5 _ _ hea, fun H6 s6 => ⟨_, rfl, ?_⟩⟩
        have s7 := same_trans s5 s6
        by_cases hc2 : canB En m b2 = true
        · rw [hc2]
          refine iteF ?_
          refine ⟨_, rfl, rfl, _, rfl, ?_⟩
          rw [decide_eq_false (show ¬ V.str (word (.either b1 b2)) = V.str "hold" from by show ¬ V.str "either" = V.str "hold"; decide +kernel)]
          refine iteF (iteF ?_)
          exact step _ s7 (by show (b1.all (canS En m) || b2.all (canS En m)) = true; rw [show b2.all (canS En m) = true from hc2, Bool.or_true])
        · rw [show canB En m b2 = false from by simpa using hc2]
          refine iteT ?_
          exact stop _ s7 (by show (b1.all (canS En m) || b2.all (canS En m)) = false; rw [show b1.all (canS En m) = false from by simpa using hc1, show b2.all (canS En m) = false from by simpa using hc2]; rfl)
    | when c b1 b2 =>
      refine ⟨_, rfl, rfl, _, rfl, ?_⟩
      rw [decide_eq_false (show ¬ V.str (word (.when c b1 b2)) = V.str "call" from by show ¬ V.str "when" = V.str "call"; decide +kernel)]
      refine iteF (iteF ?_)
      refine ⟨_, rfl, by show 2 ≤ sizeLine; decide, fun t1 ht1 => ?_⟩
      have s1 := same_new ht1 (.tup [.str "either", .str "when"])
      refine ⟨t1, _, rfl, .inr (SqT.of upd_same), rfl, rfl, _, rfl, ?_⟩
      rw [show (if false = true then !inV (.str (word (.when c b1 b2))) [.str "either", .str "when"] else inV (.str (word (.when c b1 b2))) [.str "either", .str "when"]) = true from by show inV (.str "when") [.str "either", .str "when"] = true; decide +kernel]
      have s3 := same_trans s2 s1
      generalize upd H2' t1 (.tup [.str "either", .str "when"]) = H3 at s3
      cases hps with
      | @cons p1 _ _ _ hB1 hps2 =>
      cases hps2 with
      | @cons p2 _ _ _ hB2 hps3 =>
      cases hps3
      refine iteT ⟨_, rfl, _, rfl, a, _, _, _, rfl, rfl, SqT.of (s3.tups _ _ ha), (show atI _ (-2) = some (.ref p1) from rfl), _, rfl, p1, ea, b1, En, rfl, BA_mono s3.tups hB1, s3 _ _ hea, fun H4 s4 => ⟨_, rfl, ?_⟩⟩
      have s5 := same_trans s3 s4
      by_cases hc1 : canB En m b1 = true
      · rw [hc1]
        refine iteF (iteF ?_)
        refine ⟨_, rfl, rfl, _, rfl, ?_⟩
        rw [decide_eq_false (show ¬ V.str (word (.when c b1 b2)) = V.str "hold" from by show ¬ V.str "when" = V.str "hold"; decide +kernel)]
        refine iteF (iteF ?_)
        exact step _ s5 (by show (b1.all (canS En m) || b2.all (canS En m)) = true; rw [show b1.all (canS En m) = true from hc1]; rfl)
      · rw [show canB En m b1 = false from by simpa using hc1]
        refine iteT ⟨_, rfl, _, rfl, a, _, _, _, rfl, rfl, SqT.of (s5.tups _ _ ha), (show atI _ (-1) = some (.ref p2) from rfl), _, rfl, p2, ea, b2, En, rfl, BA_mono s5.tups hB2, s5 _ _ hea, fun H6 s6 => ⟨_, rfl, ?_⟩⟩
        have s7 := same_trans s5 s6
        by_cases hc2 : canB En m b2 = true
        · rw [hc2]
          refine iteF ?_
          refine ⟨_, rfl, rfl, _, rfl, ?_⟩
          rw [decide_eq_false (show ¬ V.str (word (.when c b1 b2)) = V.str "hold" from by show ¬ V.str "when" = V.str "hold"; decide +kernel)]
          refine iteF (iteF ?_)
          exact step _ s7 (by show (b1.all (canS En m) || b2.all (canS En m)) = true; rw [show b2.all (canS En m) = true from hc2, Bool.or_true])
        · rw [show canB En m b2 = false from by simpa using hc2]
          refine iteT ?_
          exact stop _ s7 (by show (b1.all (canS En m) || b2.all (canS En m)) = false; rw [show b1.all (canS En m) = false from by simpa using hc1, show b2.all (canS En m) = false from by simpa using hc2]; rfl)
    | loop body =>
      refine ⟨_, rfl, rfl, _, rfl, ?_⟩
      rw [decide_eq_false (show ¬ V.str (word (.loop body)) = V.str "call" from by show ¬ V.str "loop" = V.str "call"; decide +kernel)]
      refine iteF (iteF ?_)
      refine ⟨_, rfl, by show 2 ≤ sizeLine; decide, fun t1 ht1 => ?_⟩
      have s1 := same_new ht1 (.tup [.str "either", .str "when"])
      refine ⟨t1, _, rfl, .inr (SqT.of upd_same), rfl, rfl, _, rfl, ?_⟩
      rw [show (if false = true then !inV (.str (word (.loop body))) [.str "either", .str "when"] else inV (.str (word (.loop body))) [.str "either", .str "when"]) = false from by show inV (.str "loop") [.str "either", .str "when"] = false; decide +kernel]
      have s3 := same_trans s2 s1
      generalize upd H2' t1 (.tup [.str "either", .str "when"]) = H3 at s3
      refine iteF ?_
      refine ⟨_, rfl, rfl, _, rfl, ?_⟩
      rw [decide_eq_false (show ¬ V.str (word (.loop body)) = V.str "hold" from by show ¬ V.str "loop" = V.str "hold"; decide +kernel)]
      refine iteF (iteF ?_)
      exact step _ s3 rfl
  · rintro σ H2 ⟨n2, n3, rfl, s2, hall⟩
    have e : bd.take xs.length = bd := by rw [hlen, List.take_length]
    rw [e] at hall
    have z := q H2 s2
    rw [show canB En d bd = true from hall] at z
    exact z
theorem can_all (F : GFun K mg "_law_can_end" st_law_can_end f fd) (T : Txt K w mg kd pw CP CF) : ∀ d, Cal P w K mg base (d + 2) "_law_can_end" (spCanT d) [] ∧ Cal P w K mg base (d + 2) "_law_can_end" (spCanL d) []
  | 0 => by
    have b : Binds K fd ["_law_body_here", "_law_ending_here"] [] := F.fn.binds fun _ _ _ _ _ _ us hl => match us, hl with | [_, _], _ => rfl
    have c0 : Cal P w K mg base 1 "_law_can_end" (spCanP 0) [] := cal_of F b ⟨fun vs H Q E h => h.elim, fun A outer s H args us vs Q E _ _ _ _ h => h.elim⟩
    exact ⟨ok_law_can_endT F T c0, ok_law_can_endL F T c0⟩
  | d + 1 => by
    have c0 : Cal P w K mg base (d + 2) "_law_can_end" (spCanP (d + 1)) [] := (can_all F T d).1
    exact ⟨ok_law_can_endT F T c0, ok_law_can_endL F T c0⟩
end
end Dp
namespace Dp
open PySem L2
open C8 (Cal Met Mak pe_c pe_mk pe_mt pe_mt0 pe_gc InsC call_isC)
section
variable {P : Program} {w : World} {K : PySem.W.Frag} {mg : Str → Option Value} {base : Heap} {kd pw CP CF : Addr} {f fB : Addr} {fd fdB : FuncData}
def spEnding (d : Nat) : Sp := fun vs H Q _ => ∃ (ab : Addr) (ps : List Addr) (bodies : List (List Stm)), vs = [.ref ab] ∧ H ab = some (.lst (ps.map V.ref)) ∧ Paired (BA H d) ps bodies ∧ bodies.length ≤ 6 ∧
  ∀ (H' : Hp) (r : Addr), Same H H' → H' r = some (.lst ((ending d bodies).map vN)) → Q (.ref r) H'
abbrev st_law_ending : Stmt := top 62
abbrev N_law_ending : List Str := ["_law_bodies", "_law_found", "_law_turn", "_law_procedure", "_law_body_here"]
theorem sc_law_ending : FnScope N_law_ending ["_law_bodies"] (defScope st_law_ending) := ⟨rfl, rfl, rfl, by decide +kernel, rfl, by decide +kernel, by decide +kernel⟩
theorem ok_law_ending {d k : Nat} (F : GFun K mg "_law_ending" st_law_ending f fd) (T : Txt K w mg kd pw CP CF) (c_law_can_end : Cal P w K mg base k "_law_can_end" (spCanT d) []) (hk : 1 ≤ k) : Cal P w K mg base (k + 1) "_law_ending" (spEnding d) [] := by
  have b : Binds K fd ["_law_bodies"] [] := F.fn.binds fun _ _ _ _ _ _ us hl => match us, hl with | [_], _ => rfl
  refine cal_of F b (F.fn.ok sc_law_ending (fun vs H Q E h => ?_) (fun cdv A outer s H vs Q E hr h => ?_))
  · obtain ⟨_, _, _, rfl, _⟩ := h
    rfl
  obtain ⟨ab, ps, bodies, rfl, hab, hps, hn6, q⟩ := h
  have hpl := paired_len hps
  refine ⟨_, ((pss_cons (ps_set (i := 1) sc_law_ending.nd rfl (Or.inr rfl) (pe_lst pa_nil))
  (pss_cons (ps_for PassesOwn.never rfl (pi_list (pv 0)) (pg_name (i := 2) sc_law_ending.nd rfl (Or.inl rfl))
  (pss_one (ps_set (i := 1) sc_law_ending.nd rfl (Or.inr rfl) (pe_lc (own := [("_law_procedure", 3), ("_law_body_here", 4)]) (g := gTup K 2 (gCons (gName 3) (gCons (gName 4) gNil))) (by rfl) sc_law_ending.nd (pi_enum (by rfl) T.n_enumerate (pa_cons (pv 0) pa_nil)) (blkOk_by (own := [("_law_procedure", 3), ("_law_body_here", 4)]) (N := N_law_ending) (sc := defScope st_law_ending) (by decide +kernel)) (fun _ _ _ _ _ => (pg_tup rfl (pgs_cons (pg_name (i := 3) sc_law_ending.nd rfl (Or.inl rfl)) (pgs_cons (pg_name (i := 4) sc_law_ending.nd rfl (Or.inl rfl)) pgs_nil)))) (fun _ _ _ _ _ => (pts_one (pt_val (pe_c c_law_can_end hr (by omega) (by rfl) (pa_cons (pv 4) (pa_cons (pv 1) pa_nil)))))) (fun _ _ _ _ _ => (pv 3))))))
  (pss_one (ps_ret (pv 1)))))), ?_⟩
  refine ⟨Nat.zero_le _, fun f0 hf0 => ?_⟩
  have s0 := same_new hf0 (.lst [])
  refine ⟨_, rfl, ab, rfl, ⟨_, SqL.of (s0 _ _ hab)⟩, ?_⟩
  refine for_it (L2.walk_list (K := K) (a := ab) (xs := ps.map V.ref)) (fun i σ H2 => ∃ (fa : Addr) (n2 : Option V), σ = [some (.ref ab), some (.ref fa), n2, none, none] ∧ Same H H2 ∧ H2 fa = some (.lst ((endN d bodies i).map vN))) ⟨f0, none, rfl, s0, upd_same⟩ ?_ ?_ ?_
  · rintro i σ H2 hi ⟨_, _, rfl, s2, _⟩
    exact SqL.of (s2 _ _ hab)
  · rintro i y σ H2 H2' hi ⟨fa, n2, rfl, s2, hfa⟩ ⟨rfl, hy⟩
    refine ⟨_, rfl, ab, _, rfl, SqL.of (s2 _ _ hab), fun D hD => ?_⟩
    refine lc_it (walk_enum (K := K) (a := ab) (xs := ps.map V.ref)) (fun j H3 => Same H2' H3 ∧ H3 D = some (.lst (((List.range j).filter fun p => canB (endN d bodies i) d (bodies.getD p [])).map vN))) ⟨same_new hD _, upd_same⟩ ?_ ?_ ?_
    · rintro j H3 hj ⟨h1, _⟩
      exact SqL.of (h1 _ _ (s2 _ _ hab))
    · rintro j x H3 H4 hj ⟨h1, h2⟩ ⟨Tq, y1, y2, rfl, hT, rfl, e1, e2⟩
      cases e1
      obtain ⟨bp, hbp, rfl⟩ : ∃ bp, ps[j]? = some bp ∧ V.ref bp = y2 := by
        have e2' : (ps.map V.ref)[j]? = some y2 := e2
        rw [List.getElem?_map] at e2'
        exact Option.map_eq_some_iff.mp e2'
      obtain ⟨bd, hbd, hba⟩ := paired_at hps hbp
      have hgd : bodies.getD j [] = bd := getD_of hbd
      have hj6 : j < bodies.length := (List.getElem?_eq_some_iff.mp hbd).1
      have sT := same_new hT (.tup [.int (j : Nat), .ref bp])
      have h14 := same_trans h1 sT
      have hlen : ((List.range j).filter fun p => canB (endN d bodies i) d (bodies.getD p [])).length ≤ j := by
        have := List.length_filter_le (fun p => canB (endN d bodies i) d (bodies.getD p [])) (List.range j)
        rw [List.length_range] at this
        exact this
      refine ⟨Tq, _, rfl, SqT.of upd_same, rfl, _, _, rfl, _, _, rfl, rfl, rfl, _, rfl, _, rfl, bp, fa, bd, endN d bodies i, rfl, BA_mono (s2.tups.trans h14.tups) hba, h14 _ _ hfa, fun H5 s5 => ⟨_, rfl, ?_⟩⟩
      have hD5 := s5 _ _ (sT _ _ h2)
      by_cases hc : canB (endN d bodies i) d bd = true
      · rw [hc]
        refine iteT ⟨_, rfl, _, hD5, lt_sizeLine (by rw [List.length_map]; omega), fun c o z => ?_, ?_⟩
        · rw [upd_ne (ne_of_none z hD)]
          exact s5 _ _ (h14 _ _ z)
        · rw [upd_same, List.range_succ, List.filter_append, List.filter_cons, hgd, hc]
          simp
      · have hc : canB (endN d bodies i) d bd = false := by simpa using hc
        rw [hc]
        refine iteF ⟨same_trans h14 s5, ?_⟩
        rw [List.range_succ, List.filter_append, List.filter_cons, hgd, hc]
        simpa using hD5
    · rintro H3 ⟨h1, h2⟩
      have el : (ps.map V.ref).length = bodies.length := by rw [List.length_map, hpl]
      rw [el] at h2
      exact ⟨_, _, rfl, same_trans s2 h1, h2⟩
  · rintro σ H2 ⟨fa, n2, rfl, s2, hfa⟩
    have el : (ps.map V.ref).length = bodies.length := by rw [List.length_map, hpl]
    rw [el] at hfa
    exact ⟨_, rfl, q H2 fa s2 hfa⟩
end
/-! ### the law's walk -/
structure WkIn (P : Program) (w : World) (H : Hp) (fl am ao ap ae : Addr) (pa : Nat × List Nat → Option Nat) (n : Nat) (ea al ca : Addr) (E A C : List Nat) : Prop where
  lf : LFIn H fl am ao ap ae
  nd : NDict P w H ap pa n
  he : H ea = some (.lst (E.map vN))
  ha : H al = some (.lst (A.map vN))
  hc : H ca = some (.lst (C.map vN))
  n1 : al ≠ ca
  n2 : al ≠ ea
  n3 : ca ≠ ea
theorem WkIn.fr {P : Program} {w : World} {H H' : Hp} {fl am ao ap ae : Addr} {pa : Nat × List Nat → Option Nat} {n : Nat} {ea al ca : Addr} {E A C A' C' : List Nat} (h : WkIn P w H fl am ao ap ae pa n ea al ca E A C) (f : Fr [al, ca] H H') (ha : H' al = some (.lst (A'.map vN))) (hc : H' ca = some (.lst (C'.map vN))) :
    WkIn P w H' fl am ao ap ae pa n ea al ca E A' C' := by
  obtain ⟨φ, hφ⟩ := h.nd.ext
  refine ⟨f.mem h.lf ?_, h.nd.keep ?_ f.tups, f.mem h.he ?_, ha, hc, h.n1, h.n2, h.n3⟩
  · simp
    exact ⟨ne_of h.lf h.ha (by intro z; cases z), ne_of h.lf h.hc (by intro z; cases z)⟩
  · rw [hφ]
    refine f.mem hφ ?_
    simp
    exact ⟨ne_of hφ h.ha (by intro z; cases z), ne_of hφ h.hc (by intro z; cases z)⟩
  · simp
    exact ⟨h.n2.symm, h.n3.symm⟩
theorem WkIn.same {P : Program} {w : World} {H H' : Hp} {fl am ao ap ae : Addr} {pa : Nat × List Nat → Option Nat} {n : Nat} {ea al ca : Addr} {E A C : List Nat} (h : WkIn P w H fl am ao ap ae pa n ea al ca E A C) (s : Same H H') : WkIn P w H' fl am ao ap ae pa n ea al ca E A C := h.fr (Fr.same s) (s _ _ h.ha) (s _ _ h.hc)
theorem WkIn.addA {P : Program} {w : World} {H : Hp} {fl am ao ap ae : Addr} {pa : Nat × List Nat → Option Nat} {n : Nat} {ea al ca : Addr} {E A C : List Nat} (h : WkIn P w H fl am ao ap ae pa n ea al ca E A C) (x : Nat) :
    WkIn P w (upd H al (.lst (A.map vN ++ [vN x]))) fl am ao ap ae pa n ea al ca E (A ++ [x]) C ∧ Fr [al, ca] H (upd H al (.lst (A.map vN ++ [vN x]))) := by
  have f := Fr.lst (S := [al, ca]) h.ha (by simp) (.lst (A.map vN ++ [vN x]))
  exact ⟨h.fr f (by rw [upd_same, map_vN_add]) (by rw [upd_ne h.n1.symm]; exact h.hc), f⟩
theorem WkIn.addC {P : Program} {w : World} {H : Hp} {fl am ao ap ae : Addr} {pa : Nat × List Nat → Option Nat} {n : Nat} {ea al ca : Addr} {E A C : List Nat} (h : WkIn P w H fl am ao ap ae pa n ea al ca E A C) (x : Nat) :
    WkIn P w (upd H ca (.lst (C.map vN ++ [vN x]))) fl am ao ap ae pa n ea al ca E A (C ++ [x]) ∧ Fr [al, ca] H (upd H ca (.lst (C.map vN ++ [vN x]))) := by
  have f := Fr.lst (S := [al, ca]) h.hc (by simp) (.lst (C.map vN ++ [vN x]))
  exact ⟨h.fr f (by rw [upd_ne h.n1]; exact h.ha) (by rw [upd_same, map_vN_add]), f⟩
theorem laidList_at {mvF : List Mv} {paF : List Nat → Option Nat} {g : Stm → List Nat → Nat → Nat → Prop} {path : List Nat} {far : Nat} : ∀ {l : List Stm} {i near j : Nat} {s : Stm}, LaidList paF g path far l i near → l[j]? = some s → ∃ n to, paF (path ++ [i + j]) = some n ∧ g s (path ++ [i + j]) n to
  | [], _, _, _, _, _, e => by simp at e
  | [t], i, near, 0, s, h, e => by
    cases e
    exact ⟨near, far, h.1, h.2⟩
  | [t], _, _, j + 1, _, _, e => by simp at e
  | t :: u :: l, i, near, 0, s, h, e => by
    cases e
    obtain ⟨h1, to, h2, _⟩ := h
    exact ⟨near, to, h1, h2⟩
  | t :: u :: l, i, near, j + 1, s, h, e => by
    obtain ⟨_, to, _, h3⟩ := h
    have z := laidList_at (mvF := mvF) (j := j) (s := s) h3 (by simpa using e)
    rw [show i + 1 + j = i + (j + 1) by omega] at z
    exact z
theorem laidS_at {mvF : List Mv} {paF : List Nat → Option Nat} {d : Nat} {s : Stm} {p : List Nat} {a b : Nat} (h : LaidS mvF paF (d + 1) s p a b) {j : Nat} {bj : List Stm} (hj : (bodiesOf s)[j]? = some bj) : ∃ n m, LaidBody mvF paF (LaidS mvF paF d) (p ++ [j]) n m bj := by
  cases s with
  | skip => simp [bodiesOf] at hj
  | plain w n => simp [bodiesOf] at hj
  | hold k body =>
    obtain ⟨n, m, _, h2, _⟩ := h
    match j, hj with
    | 0, hj => cases hj; exact ⟨n, m, h2⟩
  | either x y =>
    obtain ⟨n, m, _, h2, _, h4⟩ := h
    match j, hj with
    | 0, hj => cases hj; exact ⟨_, _, h2⟩
    | 1, hj => cases hj; exact ⟨_, _, h4⟩
  | when c x y =>
    obtain ⟨n, m, _, h2, _, h4⟩ := h
    match j, hj with
    | 0, hj => cases hj; exact ⟨_, _, h2⟩
    | 1, hj => cases hj; exact ⟨_, _, h4⟩
  | loop body =>
    obtain ⟨n, _, h2, _⟩ := h
    match j, hj with
    | 0, hj => cases hj; exact ⟨_, _, h2⟩
def wkBs (E : List Nat) (look : List Nat → Nat) (d : Nat) (p : List Nat) : List (List Stm) → Nat → List Nat
  | [], _ => []
  | b :: r, j => wkB E look d (p ++ [j]) b ++ wkBs E look d p r (j + 1)
def clBs (E : List Nat) (d : Nat) : List (List Stm) → List Nat
  | [] => []
  | b :: r => callsB E d b ++ clBs E d r
theorem wkS_bodies {E : List Nat} {look : List Nat → Nat} {d : Nat} {s : Stm} {p : List Nat} : wkS E look (d + 1) s p = wkBs E look d p (bodiesOf s) 0 := by
  cases s <;> simp [wkS, wkBs, bodiesOf]
theorem callsS_bodies {E : List Nat} {d : Nat} {s : Stm} : callsS E (d + 1) s = clBs E d (bodiesOf s) := by
  cases s <;> simp [callsS, clBs, bodiesOf]
theorem wkList_len {g : Stm → List Nat → List Nat} {can : Stm → Bool} {look : List Nat → Nat} {path : List Nat} {f : Stm → Nat} (h : ∀ s p, (g s p).length + 1 ≤ f s) : ∀ (b : List Stm) (i : Nat), (wkList g can look path b i).length ≤ szL f b
  | [], _ => Nat.le_refl _
  | s :: r, i => by
    have h1 := h s (path ++ [i])
    have h2 := wkList_len (can := can) (look := look) (path := path) h r (i + 1)
    show (look (path ++ [i]) :: (g s (path ++ [i]) ++ if can s = true then wkList g can look path r (i + 1) else [])).length ≤ f s + szL f r
    rw [List.length_cons, List.length_append]
    split
    · omega
    · rw [List.length_nil]; omega
theorem wkS_len {E : List Nat} {look : List Nat → Nat} : ∀ (d : Nat) (s : Stm) (p : List Nat), (wkS E look d s p).length + 1 ≤ szS d s
  | 0, _, _ => Nat.le_refl 1
  | d + 1, s, p => by
    have ih : ∀ (q : List Nat) (b : List Stm), (wkB E look d q b).length ≤ szB d b := fun q b => wkList_len (fun s p => wkS_len d s p) b 0
    cases s with
    | skip => exact Nat.le_refl 1
    | plain w n => exact Nat.le_refl 1
    | hold k b =>
      have h1 := ih (p ++ [0]) b
      show (wkB E look d (p ++ [0]) b).length + 1 ≤ 1 + szB d b
      omega
    | either x y =>
      have h1 := ih (p ++ [0]) x
      have h2 := ih (p ++ [1]) y
      show (wkB E look d (p ++ [0]) x ++ wkB E look d (p ++ [1]) y).length + 1 ≤ 1 + (szB d x + szB d y)
      rw [List.length_append]
      omega
    | when m x y =>
      have h1 := ih (p ++ [0]) x
      have h2 := ih (p ++ [1]) y
      show (wkB E look d (p ++ [0]) x ++ wkB E look d (p ++ [1]) y).length + 1 ≤ 1 + (szB d x + szB d y)
      rw [List.length_append]
      omega
    | loop b =>
      have h1 := ih (p ++ [0]) b
      show (wkB E look d (p ++ [0]) b).length + 1 ≤ 1 + szB d b
      omega
theorem wkB_len {E : List Nat} {look : List Nat → Nat} {d : Nat} {p : List Nat} {b : List Stm} : (wkB E look d p b).length ≤ szB d b := wkList_len (fun s p => wkS_len d s p) b 0
theorem callsB_len {E : List Nat} {d : Nat} {b : List Stm} : (callsB E d b).length ≤ szB d b := callsList_len (fun s => callsS_len d s) b
end Dp
namespace Dp
open PySem L2
open C8 (Cal Met Mak pe_c pe_mk pe_mt pe_mt0 pe_gc InsC call_isC)
def isRef : V → Bool
  | .ref _ => true
  | _ => false
theorem filter_head (s : Stm) (ps : List Addr) : ((.str (word s) :: (headOf s ++ ps.map V.ref)) : List V).filter isRef = ps.map V.ref := by
  have h1 : (headOf s).filter isRef = [] := by
    unfold headOf
    cases bIx s <;> rfl
  have h2 : ∀ l : List Addr, (l.map V.ref).filter isRef = l.map V.ref := fun l => by
    induction l with
    | nil => rfl
    | cons a l ih => rw [List.map_cons, List.filter_cons, ih]; rfl
  rw [List.filter_cons, List.filter_append, h1, h2]
  rfl
theorem item_kind {s : Stm} {ps : List Addr} {j : Nat} {x : V} (h : ((.str (word s) :: (headOf s ++ ps.map V.ref)) : List V)[j]? = some x) : (∃ y, x = .str y) ∨ (∃ i, x = .int i) ∨ ∃ p ∈ ps, x = .ref p := by
  have hm := List.mem_of_getElem? h
  rcases List.mem_cons.mp hm with h1 | h1
  · exact .inl ⟨_, h1⟩
  · rcases List.mem_append.mp h1 with h1 | h1
    · unfold headOf at h1
      cases hb : bIx s with
      | none => rw [hb] at h1; cases h1
      | some i =>
        rw [hb] at h1
        exact .inr (.inl ⟨_, List.mem_singleton.mp h1⟩)
    · obtain ⟨p, hp, e⟩ := List.mem_map.mp h1
      exact .inr (.inr ⟨p, hp, e.symm⟩)
theorem items_len (s : Stm) {ps : List Addr} (h : ps.length = (bodiesOf s).length) : ((.str (word s) :: (headOf s ++ ps.map V.ref)) : List V).length ≤ 4 := by
  have h1 : (headOf s).length ≤ 1 := by
    unfold headOf
    cases bIx s <;> simp
  have h2 := many_le s
  rw [List.length_cons, List.length_append, List.length_map]
  omega
section
variable {P : Program} {w : World} {K : PySem.W.Frag} {mg : Str → Option Value} {base : Heap} {kd pw CP CF : Addr} {f fB : Addr} {fd fdB : FuncData}
abbrev lookP (pa : Nat × List Nat → Option Nat) (pr : Nat) : List Nat → Nat := fun q => (pa (pr, q)).getD 0
def spWalk (P : Program) (w : World) (d : Nat) : Sp := fun vs H Q _ => ∃ (fl am ao ap ae : Addr) (pa : Nat × List Nat → Option Nat) (n : Nat) (ea al ca bp pt : Addr) (E A C : List Nat) (pr : Nat) (path : List Nat) (b : List Stm) (mvF : List Mv) (near far : Nat),
  vs = [.ref fl, vN pr, .ref bp, .ref pt, .ref ea, .ref al, .ref ca] ∧ WkIn P w H fl am ao ap ae pa n ea al ca E A C ∧ BA H d bp b ∧ H pt = some (.tup (path.map vN)) ∧
  LaidList (fun q => pa (pr, q)) (LaidS mvF (fun q => pa (pr, q)) d) path far b 0 near ∧ path.length + 2 * d + 1 ≤ 1000 ∧ A.length + (wkB E (lookP pa pr) d path b).length ≤ 1000000 ∧ C.length + (callsB E d b).length ≤ 1000000 ∧
  ∀ H', WkIn P w H' fl am ao ap ae pa n ea al ca E (A ++ wkB E (lookP pa pr) d path b) (C ++ callsB E d b) → Fr [al, ca] H H' → Q .non H'
def spWalkP (P : Program) (w : World) : Nat → Sp
  | 0 => fun _ _ _ _ => False
  | n + 1 => spWalk P w n
abbrev st_law_walk : Stmt := top 63
abbrev N_law_walk : List Str := ["_law_flow_here", "_law_procedure", "_law_body_here", "_law_path", "_law_ending_here", "_law_alive_here", "_law_called", "_law_at", "_law_statement_here", "_law_here", "_law_parts", "_law_branch", "_law_inner", "_law_part"]
theorem sc_law_walk : FnScope N_law_walk ["_law_flow_here", "_law_procedure", "_law_body_here", "_law_path", "_law_ending_here", "_law_alive_here", "_law_called"] (defScope st_law_walk) := ⟨rfl, rfl, rfl, by decide +kernel, rfl, by decide +kernel, by decide +kernel⟩
theorem ok_law_walk {d k : Nat} (F : GFun K mg "_law_walk" st_law_walk f fd) (T : Txt K w mg kd pw CP CF) (c_law_can_end : Cal P w K mg base (d + 2) "_law_can_end" (spCanL d) []) (c_law_walk : Cal P w K mg base k "_law_walk" (spWalkP P w d) []) (hk : d + 2 ≤ k) : Cal P w K mg base (k + 1) "_law_walk" (spWalk P w d) [] := by
  have b : Binds K fd ["_law_flow_here", "_law_procedure", "_law_body_here", "_law_path", "_law_ending_here", "_law_alive_here", "_law_called"] [] := F.fn.binds fun _ _ _ _ _ _ us hl => match us, hl with | [_, _, _, _, _, _, _], _ => rfl
  refine cal_of F b (F.fn.ok sc_law_walk (fun vs H Q E h => ?_) (fun cdv A outer s H vs Q E hr h => ?_))
  · obtain ⟨_, _, _, _, _, _, _, _, _, _, _, _, _, _, _, _, _, _, _, _, _, rfl, _⟩ := h
    rfl
  obtain ⟨fl, am, ao, ap, ae, pa, n, ea, al, ca, bp, pt, En, Al0, Ca0, pr, path, bd, mvF, near, far, rfl, I, ⟨xs, hbp, hx⟩, hpt, hLL, hpd, hA6, hC6, q⟩ := h
  have hu := hu1_of hr
  have hu9 := hu9_of hr
  have hlen := paired_len hx
  have hwl := wkB_len (E := En) (look := lookP pa pr) (d := d) (p := path) (b := bd)
  have hcl := callsB_len (E := En) (d := d) (b := bd)
  have hpl : path.length + 1 ≤ sizeLine := Nat.le_of_lt (lt_sizeLine (by omega))
  refine ⟨_, ((pss_one (ps_for PassesOwn.never rfl (pi_enumT (by rfl) T.n_enumerate (pa_cons (pv 2) pa_nil)) (pg_tup rfl (pgs_cons (pg_name (i := 7) sc_law_walk.nd rfl (Or.inl rfl)) (pgs_cons (pg_name (i := 8) sc_law_walk.nd rfl (Or.inl rfl)) pgs_nil)))
  (pss_cons (ps_set (i := 9) sc_law_walk.nd rfl (Or.inl rfl) (pe_op op_catB (pv 3) (pe_tup (pa_cons (pv 7) pa_nil))))
  (pss_cons (ps_expr (pe_bm PySem.F.plainAttrs_list PySem.F.slot_list_append PySem.F.type_list_append mt_append (pv 5) (pa_cons (pe_nget hu9 (pe_dget hu (pv 0) pe_str (fun _ _ => rfl)) (pe_tup (pa_cons (pv 1) (pa_cons (pv 9) pa_nil))) (fun _ _ => rfl)) pa_nil)))
  (pss_cons (ps_if (pt_cmpR op_eq (pe_ix ix_tup (pv 8) pe_int (fun _ _ => rfl)) pe_str (nomark _)) (pss_one (ps_expr (pe_bm PySem.F.plainAttrs_list PySem.F.slot_list_append PySem.F.type_list_append mt_append (pv 6) (pa_cons (pe_ix ix_tup (pv 8) pe_int (fun _ _ => rfl)) pa_nil)))) pss_nil)
  (pss_cons (ps_setLc (i := 10) (own := [("_law_part", 13)]) (tt := tB (tCB (rIsiT K) (tCons (tVar 13) (tCons (tTup (tCons (tC (.ty "list")) (tCons (tC (.ty "tuple")) tNil))) tNil)))) (by rfl) sc_law_walk.nd rfl rfl (sw_true rfl rfl rfl (by decide +kernel)) (pi_tup (pv 8)) (blkOk_by (own := [("_law_part", 13)]) (N := N_law_walk) (sc := defScope st_law_walk) (by decide +kernel)) (fun _ _ _ _ _ => (pg_name (i := 13) sc_law_walk.nd rfl (Or.inl rfl))) (fun _ _ _ _ _ => (pts_one (pt_val (pe_callB call_isiT (by rfl) T.n_isinstance bt_isinstance (pa_cons (pv 13) (pa_cons (pe_tup (pa_cons (pe_bltn (v := .ty "list") (by rfl) T.n_list bt_list rfl) (pa_cons (pe_bltn (v := .ty "tuple") (by rfl) T.n_tuple bt_tuple rfl) pa_nil))) pa_nil)))))) (fun _ _ _ _ _ => (pv 13)))
  (pss_cons (ps_for PassesOwn.never rfl (pi_enum (by rfl) T.n_enumerate (pa_cons (pv 10) pa_nil)) (pg_tup rfl (pgs_cons (pg_name (i := 11) sc_law_walk.nd rfl (Or.inl rfl)) (pgs_cons (pg_name (i := 12) sc_law_walk.nd rfl (Or.inl rfl)) pgs_nil)))
  (pss_one (ps_expr (pe_c c_law_walk hr (by omega) (by rfl) (pa_cons (pv 0) (pa_cons (pv 1) (pa_cons (pv 12) (pa_cons (pe_op op_catB (pv 9) (pe_tup (pa_cons (pv 11) pa_nil))) (pa_cons (pv 4) (pa_cons (pv 5) (pa_cons (pv 6) pa_nil)))))))))))
  (pss_one (ps_if (pt_not (pt_val (pe_c c_law_can_end hr (by omega) (by rfl) (pa_cons (pe_lst (pa_cons (pv 8) pa_nil)) (pa_cons (pv 4) pa_nil))))) (pss_one ps_retN) pss_nil)))))))))), ?_⟩
  refine ⟨_, rfl, bp, xs, rfl, SqT.of hbp, ?_⟩
  refine for_it (walk_enumT (K := K) (a := bp) (xs := xs)) (fun i σ H2 => ∃ (n7 n8 n9 n10 n11 n12 : Option V) (A C : List Nat), σ = [some (.ref fl), some (vN pr), some (.ref bp), some (.ref pt), some (.ref ea), some (.ref al), some (.ref ca), n7, n8, n9, n10, n11, n12, none] ∧
    WkIn P w H2 fl am ao ap ae pa n ea al ca En A C ∧ Fr [al, ca] H H2 ∧ A ++ wkList (wkS En (lookP pa pr) d) (canS En d) (lookP pa pr) path (bd.drop i) i = Al0 ++ wkB En (lookP pa pr) d path bd ∧ C ++ callsList (callsS En d) (canS En d) (bd.drop i) = Ca0 ++ callsB En d bd) ?_ ?_ ?_ ?_
  · exact ⟨none, none, none, none, none, none, Al0, Ca0, rfl, I, Fr.refl _ _, rfl, rfl⟩
  · rintro i σ H2 hi ⟨_, _, _, _, _, _, _, _, rfl, _, fr, _⟩
    exact SqT.of (fr.tups _ _ hbp)
  · rintro i y σ H2 H3 hi ⟨n7, n8, n9, n10, n11, n12, A, C, rfl, W, fr, hA, hC⟩ ⟨Tq, y1, y2, rfl, hT, rfl, e1, e2⟩
    cases e1
    obtain ⟨sm, hsm, hsa⟩ := paired_at hx e2
    obtain ⟨m, rfl⟩ : ∃ m, d = m + 1 := by
      cases d with
      | zero => exact hsa.elim
      | succ m => exact ⟨m, rfl⟩
    have ed := drop_cons hsm
    rw [ed] at hA hC
    obtain ⟨nk, tk, hkey, hlaid⟩ := laidList_at (mvF := mvF) hLL hsm
    rw [Nat.zero_add] at hkey hlaid
    have hlook : lookP pa pr (path ++ [i]) = nk := by show (pa (pr, path ++ [i])).getD 0 = nk; rw [show pa (pr, path ++ [i]) = some nk from hkey]; rfl
    have hA : A ++ (nk :: (wkBs En (lookP pa pr) m (path ++ [i]) (bodiesOf sm) 0 ++ if canS En (m + 1) sm = true then wkList (wkS En (lookP pa pr) (m + 1)) (canS En (m + 1)) (lookP pa pr) path (bd.drop (i + 1)) (i + 1) else [])) = Al0 ++ wkB En (lookP pa pr) (m + 1) path bd := by
      rw [← hA, ← hlook, ← wkS_bodies]; rfl
    have hC : C ++ (ownCall sm ++ (clBs En m (bodiesOf sm) ++ if canS En (m + 1) sm = true then callsList (callsS En (m + 1)) (canS En (m + 1)) (bd.drop (i + 1)) else [])) = Ca0 ++ callsB En (m + 1) bd := by
      rw [← hC, ← callsS_bodies]; rfl
    have hAlen := congrArg List.length hA
    have hClen := congrArg List.length hC
    rw [List.length_append, List.length_append] at hAlen hClen
    rw [List.length_cons, List.length_append] at hAlen
    rw [List.length_append, List.length_append] at hClen
    obtain ⟨a, ps, rfl, ha, hps⟩ := SA_view hsa
    have s3 := same_new hT (.tup [.int (i : Nat), .ref a])
    have W3 := W.same s3
    have fr3 := fr.trans (Fr.same s3)
    refine ⟨Tq, _, rfl, SqT.of upd_same, rfl, _, _, rfl, _, _, rfl, rfl, ?_⟩
    generalize upd H2 Tq (.tup [.int (i : Nat), .ref a]) = H3 at W3 fr3
    -- here = path + (at,)
    refine ⟨_, rfl, _, rfl, by show 1 ≤ sizeLine; decide, fun p1 hp1 => ?_⟩
    have s1 := same_new hp1 (.tup [.int (i : Int)])
    refine ⟨pt, p1, _, _, rfl, rfl, SqT.of (s1 _ _ (fr3.tups _ _ hpt)), upd_same, (fun z => by cases z), (by rw [List.length_map]; exact hpl), fun hr4 H4 s2 hh4 => ?_⟩
    rw [map_vN_snoc] at hh4
    have W4 := W3.same (same_trans s1 s2)
    have fr4 := fr3.trans (Fr.same (same_trans s1 s2))
    -- alive.append(flow['paths'][procedure, here])
    refine ⟨_, rfl, .inl ⟨rfl, _, SqL.of W4.ha⟩, _, rfl, fl, _, rfl, W4.lf.paths, _, rfl, _, rfl, by show 2 ≤ sizeLine; decide, fun p5 hp5 => ?_⟩
    have s5 := same_new hp5 (.tup [vN pr, .ref hr4])
    have W5 := W4.same s5
    have fr5 := fr4.trans (Fr.same s5)
    refine ⟨ap, p5, hr4, (pr, path ++ [i]), nk, pa, n, rfl, rfl, W5.nd, upd_same, s5 _ _ hh4, hkey, al, _, _, rfl, rfl, W5.ha, lt_sizeLine (by rw [List.length_map]; omega), ?_⟩
    obtain ⟨W6, f6⟩ := W5.addA nk
    have fr6 := fr5.trans f6
    have hh6 : (upd (upd H4 p5 (.tup [vN pr, .ref hr4])) al (.lst (A.map vN ++ [vN nk]))) hr4 = some (.tup ((path ++ [i]).map vN)) := f6.tups _ _ (s5 _ _ hh4)
    generalize upd (upd H4 p5 (.tup [vN pr, .ref hr4])) al (.lst (A.map vN ++ [vN nk])) = H6 at W6 fr6 hh6
    -- if statement[0] == 'call'
    have h0 : atI ((.str (word sm) :: (headOf sm ++ ps.map V.ref)) : List V) 0 = some (.str (word sm)) := at_of (j := 0) rfl rfl
    refine ⟨_, rfl, a, _, _, _, rfl, rfl, SqT.of (fr6.tups _ _ ha), h0, rfl, _, rfl, ?_⟩
    apply join_if (fun σ' H' => σ' = [some (.ref fl), some (vN pr), some (.ref bp), some (.ref pt), some (.ref ea), some (.ref al), some (.ref ca), some (.int (i : Nat)), some (.ref a), some (.ref hr4), n10, n11, n12, none] ∧ WkIn P w H' fl am ao ap ae pa n ea al ca En (A ++ [nk]) (C ++ ownCall sm) ∧ Fr [al, ca] H H' ∧ H' hr4 = some (.tup ((path ++ [i]).map vN)))
    · intro mn
      by_cases hc : ¬ ∃ c, sm = .plain .call c
      · have ho : ownCall sm = [] := by
          cases sm with
          | plain pw' c => cases pw' <;> first | rfl | exact absurd ⟨c, rfl⟩ hc
          | _ => rfl
        have hne : ¬ V.str (word sm) = V.str "call" := fun z => by
          have z := V.str.inj z
          cases sm with
          | plain pw' c => exact hc ⟨c, by rw [PW.str_call.mp z]⟩
          | skip => exact absurd z (by show ¬ ("skip" : Str) = "call"; decide +kernel)
          | hold _ _ => exact absurd z (by show ¬ ("hold" : Str) = "call"; decide +kernel)
          | either _ _ => exact absurd z (by show ¬ ("either" : Str) = "call"; decide +kernel)
          | when _ _ _ => exact absurd z (by show ¬ ("when" : Str) = "call"; decide +kernel)
          | loop _ => exact absurd z (by show ¬ ("loop" : Str) = "call"; decide +kernel)
        rw [decide_eq_false hne]
        refine iteF ?_
        exact mn _ _ ⟨rfl, by rw [ho, List.append_nil]; exact W6, fr6, hh6⟩
      · obtain ⟨c, rfl⟩ := Classical.not_not.mp hc
        rw [decide_eq_true (show V.str (word (.plain .call c)) = V.str "call" from rfl)]
        refine iteT ⟨_, rfl, .inl ⟨rfl, _, SqL.of W6.hc⟩, _, rfl, a, _, _, _, rfl, rfl, SqT.of (fr6.tups _ _ ha), (show atI _ 1 = some (vN c) from at_of (j := 1) rfl rfl), ca, _, _, rfl, rfl, W6.hc, lt_sizeLine (by rw [List.length_map]; omega), ?_⟩
        obtain ⟨W7, f7⟩ := W6.addC c
        exact mn _ _ ⟨rfl, W7, fr6.trans f7, f7.tups _ _ hh6⟩
    rintro σ' H7 ⟨rfl, W7, fr7, hh7⟩
    have ha7 := fr7.tups _ _ ha
    have hit := items_len sm (paired_len hps)
    have hps7 : Paired (BA H7 m) ps (bodiesOf sm) := paired_mono (fun _ _ z => BA_mono fr7.tups z) hps
    -- parts
    refine ⟨_, rfl, a, rfl, ⟨_, SqT.of ha7⟩, fun D hD => ?_⟩
    refine lc_tup (K := K) (a := a) (xs := (.str (word sm) :: (headOf sm ++ ps.map V.ref))) (fun j H8 => Same H7 H8 ∧ H8 D = some (.lst ((((.str (word sm) :: (headOf sm ++ ps.map V.ref)) : List V).take j).filter isRef))) ⟨same_new hD _, upd_same⟩ (fun j H8 _ h8 => SqT.of (h8.1 _ _ ha7)) ?_ ?_
    · rintro j x H8 hj ⟨h1, h2⟩
      have hlj : ((((.str (word sm) :: (headOf sm ++ ps.map V.ref)) : List V).take j).filter isRef).length ≤ 4 := by
        have h3 := List.length_filter_le isRef (((.str (word sm) :: (headOf sm ++ ps.map V.ref)) : List V).take j)
        have h4 : (((.str (word sm) :: (headOf sm ++ ps.map V.ref)) : List V).take j).length ≤ ((.str (word sm) :: (headOf sm ++ ps.map V.ref)) : List V).length := by rw [List.length_take]; exact Nat.min_le_right _ _
        omega
      refine ⟨rfl, _, rfl, by show 2 ≤ sizeLine; decide, fun t1 ht1 => ?_⟩
      have st := same_new ht1 (.tup [.ty "list", .ty "tuple"])
      have hD9 := st _ _ h2
      have s79 := same_trans h1 st
      rcases item_kind hj with ⟨z, rfl⟩ | ⟨z, rfl⟩ | ⟨p, hp, rfl⟩
      · refine ⟨_, _, _, _, _, false, rfl, upd_same, .cons (.ty "list") (.cons (.ty "tuple") .nil), .base (.str z), rfl, _, rfl, iteF ⟨s79, ?_⟩⟩
        rw [List.take_add_one, hj, List.filter_append]
        simpa [isRef] using hD9
      · refine ⟨_, _, _, _, _, false, rfl, upd_same, .cons (.ty "list") (.cons (.ty "tuple") .nil), .base (.int z), rfl, _, rfl, iteF ⟨s79, ?_⟩⟩
        rw [List.take_add_one, hj, List.filter_append]
        simpa [isRef] using hD9
      · obtain ⟨jj, hjj⟩ := List.mem_iff_getElem?.mp hp
        obtain ⟨bj, _, ys, hys, _⟩ := paired_at hps7 hjj
        refine ⟨_, _, _, _, _, true, rfl, upd_same, .cons (.ty "list") (.cons (.ty "tuple") .nil), .base (.tup (s79 _ _ hys)), rfl, _, rfl, iteT ⟨_, rfl, _, hD9, lt_sizeLine (by omega), fun c o e => ?_, ?_⟩⟩
        · rw [upd_ne (ne_of_none e hD)]
          exact s79 _ _ e
        · rw [upd_same, List.take_add_one, hj, List.filter_append]
          rfl
    rintro H8 ⟨s8, hD8⟩
    rw [List.take_length, filter_head] at hD8
    have W8 := W7.same s8
    have fr8 := fr7.trans (Fr.same s8)
    have hh8 := s8 _ _ hh7
    have hps8 : Paired (BA H8 m) ps (bodiesOf sm) := paired_mono (fun _ _ z => BA_mono s8.tups z) hps7
    have hnD : D ∉ [al, ca] := by
      simp
      exact ⟨(ne_of_none W7.ha hD).symm, (ne_of_none W7.hc hD).symm⟩
    have hplen := paired_len hps
    -- for branch, inner in enumerate(parts)
    refine ⟨_, rfl, D, _, rfl, SqL.of hD8, ?_⟩
    refine for_it (walk_enum (K := K) (a := D) (xs := ps.map V.ref)) (fun j σ H9 => ∃ (n11 n12 : Option V) (A1 C1 : List Nat), σ = [some (.ref fl), some (vN pr), some (.ref bp), some (.ref pt), some (.ref ea), some (.ref al), some (.ref ca), some (.int (i : Nat)), some (.ref a), some (.ref hr4), some (.ref D), n11, n12, none] ∧
      WkIn P w H9 fl am ao ap ae pa n ea al ca En A1 C1 ∧ Fr [al, ca] H8 H9 ∧ A1 ++ wkBs En (lookP pa pr) m (path ++ [i]) ((bodiesOf sm).drop j) j = (A ++ [nk]) ++ wkBs En (lookP pa pr) m (path ++ [i]) (bodiesOf sm) 0 ∧ C1 ++ clBs En m ((bodiesOf sm).drop j) = (C ++ ownCall sm) ++ clBs En m (bodiesOf sm)) ?_ ?_ ?_ ?_
    · exact ⟨n11, n12, _, _, rfl, W8, Fr.refl _ _, rfl, rfl⟩
    · rintro j σ H9 hj ⟨_, _, _, _, rfl, _, f9, _⟩
      exact SqL.of (f9.mem hD8 hnD)
    · rintro j y σ H9 H10 hj ⟨n11, n12, A1, C1, rfl, W9, f9, hA1, hC1⟩ ⟨Tj, y1, y2, rfl, hTj, rfl, e1, e2⟩
      cases e1
      obtain ⟨bpj, hbpj, rfl⟩ : ∃ bpj, ps[j]? = some bpj ∧ V.ref bpj = y2 := by
        have e2' : (ps.map V.ref)[j]? = some y2 := e2
        rw [List.getElem?_map] at e2'
        exact Option.map_eq_some_iff.mp e2'
      obtain ⟨bj, hbj, hbaj⟩ := paired_at hps8 hbpj
      obtain ⟨nj, fj, hlj⟩ := laidS_at hlaid hbj
      have edj := drop_cons hbj
      rw [edj] at hA1 hC1
      have hA1l := congrArg List.length hA1
      have hC1l := congrArg List.length hC1
      have hA1e : A1 ++ (wkB En (lookP pa pr) m (path ++ [i] ++ [j]) bj ++ wkBs En (lookP pa pr) m (path ++ [i]) ((bodiesOf sm).drop (j + 1)) (j + 1)) = (A ++ [nk]) ++ wkBs En (lookP pa pr) m (path ++ [i]) (bodiesOf sm) 0 := hA1
      have hC1e : C1 ++ (callsB En m bj ++ clBs En m ((bodiesOf sm).drop (j + 1))) = (C ++ ownCall sm) ++ clBs En m (bodiesOf sm) := hC1
      have hA1l := congrArg List.length hA1e
      have hC1l := congrArg List.length hC1e
      rw [List.length_append, List.length_append, List.length_append, List.length_append, List.length_singleton] at hA1l
      rw [List.length_append, List.length_append, List.length_append, List.length_append] at hC1l
      have sT := same_new hTj (.tup [.int (j : Nat), .ref bpj])
      have W10 := W9.same sT
      have f10 := f9.trans (Fr.same sT)
      refine ⟨Tj, _, rfl, SqT.of upd_same, rfl, _, _, rfl, _, _, rfl, rfl, ?_⟩
      -- walk(flow, procedure, inner, here + (branch,), ending, alive, called)
      refine ⟨_, rfl, _, rfl, _, rfl, _, rfl, _, rfl, by show 1 ≤ sizeLine; decide, fun p4 hp4 => ?_⟩
      have s4 := same_new hp4 (.tup [.int (j : Int)])
      refine ⟨hr4, p4, _, _, rfl, rfl, SqT.of (s4 _ _ (f10.tups _ _ hh8)), upd_same, (fun z => by cases z), (by rw [List.length_map, List.length_append, List.length_singleton]; exact Nat.le_of_lt (lt_sizeLine (by show path.length + 1 + 1 ≤ 1000000; omega))), fun q5 H11 s5 hq5 => ?_⟩
      rw [map_vN_snoc] at hq5
      have s45 := same_trans s4 s5
      have f11 := f10.trans (Fr.same s45)
      refine ⟨_, rfl, _, rfl, _, rfl, fl, am, ao, ap, ae, pa, n, ea, al, ca, bpj, q5, En, A1, C1, pr, path ++ [i] ++ [j], bj, mvF, nj, fj, rfl, W10.same s45, BA_mono f11.tups hbaj, hq5, hlj.2, by rw [List.length_append, List.length_append, List.length_singleton, List.length_singleton]; omega, by omega, by omega, fun H12 W12 f12 => ?_⟩
      refine ⟨_, _, _, _, rfl, W12, f11.trans f12, ?_, ?_⟩
      · rw [List.append_assoc]; exact hA1e
      · rw [List.append_assoc]; exact hC1e
    rintro σ H9 ⟨n11, n12, A1, C1, rfl, W9, f9, hA1, hC1⟩
    have e0 : (bodiesOf sm).drop (ps.map V.ref).length = [] := by rw [List.length_map, hplen, List.drop_length]
    rw [e0] at hA1 hC1
    have hA1 : A1 = (A ++ [nk]) ++ wkBs En (lookP pa pr) m (path ++ [i]) (bodiesOf sm) 0 := by rw [← hA1]; exact (List.append_nil A1).symm
    have hC1 : C1 = (C ++ ownCall sm) ++ clBs En m (bodiesOf sm) := by rw [← hC1]; exact (List.append_nil C1).symm
    have fr9 := fr8.trans f9
    -- if not can_end([statement], ending): return
    refine ⟨_, rfl, by show 1 ≤ sizeLine; decide, fun l1 hl1 => ?_⟩
    have sl := same_new hl1 (.lst [.ref a])
    refine ⟨_, rfl, l1, ea, [sm], En, rfl, ⟨[.ref a], upd_same, .cons (SA_mono (fr9.tups.trans sl.tups) _ hsa) .nil⟩, sl _ _ W9.he, fun H10 s10 => ⟨_, rfl, ?_⟩⟩
    have W10 := (W9.same sl).same s10
    have fr10 := (fr9.trans (Fr.same sl)).trans (Fr.same s10)
    have ecan : canB En (m + 1) [sm] = canS En (m + 1) sm := by show (canS En (m + 1) sm && true) = _; rw [Bool.and_true]
    rw [ecan]
    by_cases hcan : canS En (m + 1) sm = true
    · rw [hcan] at hA hC ⊢
      rw [if_pos rfl] at hA hC
      refine iteF ⟨_, _, _, _, _, _, A1, C1, rfl, W10, fr10, ?_, ?_⟩
      · rw [hA1, ← hA, List.append_assoc, List.append_assoc]; rfl
      · rw [hC1, ← hC, List.append_assoc, List.append_assoc]
    · have hcan : canS En (m + 1) sm = false := by simpa using hcan
      rw [hcan] at hA hC ⊢
      rw [if_neg Bool.false_ne_true, List.append_nil] at hA hC
      refine iteT ?_
      have eA : A1 = Al0 ++ wkB En (lookP pa pr) (m + 1) path bd := by rw [hA1, ← hA, List.append_assoc]; rfl
      have eC : C1 = Ca0 ++ callsB En (m + 1) bd := by rw [hC1, ← hC, List.append_assoc]
      rw [eA, eC] at W10
      exact q H10 W10 fr10
  · rintro σ H2 ⟨n7, n8, n9, n10, n11, n12, A, C, rfl, W, fr, hA, hC⟩
    have e0 : bd.drop xs.length = [] := by rw [hlen, List.drop_length]
    rw [e0] at hA hC
    have hA : A = Al0 ++ wkB En (lookP pa pr) d path bd := by rw [← hA]; exact (List.append_nil A).symm
    have hC : C = Ca0 ++ callsB En d bd := by rw [← hC]; exact (List.append_nil C).symm
    rw [hA, hC] at W
    exact q H2 W fr
theorem walk_all (F : GFun K mg "_law_walk" st_law_walk f fd) (T : Txt K w mg kd pw CP CF) (c : ∀ d, Cal P w K mg base (d + 2) "_law_can_end" (spCanL d) []) : ∀ d, Cal P w K mg base (d + 4) "_law_walk" (spWalk P w d) []
  | 0 => by
    have b : Binds K fd ["_law_flow_here", "_law_procedure", "_law_body_here", "_law_path", "_law_ending_here", "_law_alive_here", "_law_called"] [] := F.fn.binds fun _ _ _ _ _ _ us hl => match us, hl with | [_, _, _, _, _, _, _], _ => rfl
    have c0 : Cal P w K mg base 3 "_law_walk" (spWalkP P w 0) [] := cal_of F b ⟨fun vs H Q E h => h.elim, fun A outer s H args us vs Q E _ _ _ _ h => h.elim⟩
    exact ok_law_walk F T (c 0) c0 (by omega)
  | d + 1 => by
    have c0 : Cal P w K mg base (d + 4) "_law_walk" (spWalkP P w (d + 1)) [] := walk_all F T c d
    exact ok_law_walk F T (c (d + 1)) c0 (by omega)
end
end Dp
namespace Dp
open PySem L2
open C8 (Cal Met Mak pe_c pe_mk pe_mt pe_mt0 pe_gc InsC call_isC)
/-! ### the law's worklist, in plain Lean -/
section
variable {d : Nat} {bodies : List (List Stm)} {th : List Nat}
structure LWk (d : Nat) (bodies : List (List Stm)) (th : List Nat) (Wt Dn A : List Nat) : Prop where
  wr : ∀ x ∈ Wt, RR d bodies th x
  dr : ∀ x ∈ Dn, RR d bodies th x
  tc : ∀ t ∈ th, t ∈ Wt ∨ t ∈ Dn
  cc : ∀ p ∈ Dn, ∀ c ∈ callsOf d bodies p, c ∈ Dn ∨ c ∈ Wt
  a1 : ∀ x ∈ A, ∃ p ∈ Dn, x = bgF d bodies th p ∨ x ∈ wkB (ending d bodies) (lookF d bodies th p) d [] (bodies.getD p [])
  a2 : ∀ p ∈ Dn, bgF d bodies th p ∈ A
  la : A.length ≤ 8 * Dn.length
  lw : Wt.length ≤ 4 + 7 * Dn.length
  ld : Dn.length ≤ cnt bodies.length Dn
theorem LWk.start (h : th.length ≤ 4) : LWk d bodies th th [] [] :=
  ⟨fun x hx => .thread hx, fun x hx => (nomatch hx), fun t ht => .inl ht, fun p hp => (nomatch hp), fun x hx => (nomatch hx), fun x hx => (nomatch hx), Nat.le_refl _, by show th.length ≤ 4 + 7 * 0; omega, Nat.zero_le _⟩
theorem LWk.skip {Wt W0 Dn A : List Nat} {p : Nat} (h : LWk d bodies th Wt Dn A) (e : Wt = W0 ++ [p]) (hp : p ∈ Dn) : LWk d bodies th W0 Dn A := by
  subst e
  refine ⟨fun x hx => h.wr x (List.mem_append_left _ hx), h.dr, fun t ht => ?_, fun q hq c hc => ?_, h.a1, h.a2, h.la, ?_, h.ld⟩
  · rcases h.tc t ht with z | z
    · rcases List.mem_append.mp z with z | z
      · exact .inl z
      · rw [List.mem_singleton.mp z]; exact .inr hp
    · exact .inr z
  · rcases h.cc q hq c hc with z | z
    · exact .inl z
    · rcases List.mem_append.mp z with z | z
      · exact .inr z
      · rw [List.mem_singleton.mp z]; exact .inl hp
  · have := h.lw
    rw [List.length_append, List.length_singleton] at this
    omega
theorem LWk.add {Wt W0 Dn A : List Nat} {p : Nat} (h : LWk d bodies th Wt Dn A) (e : Wt = W0 ++ [p]) (hp : ¬ p ∈ Dn) (hlt : p < bodies.length) (hsz : ∀ b ∈ bodies, szB d b ≤ 7) :
    LWk d bodies th (W0 ++ callsB (ending d bodies) d (bodies.getD p [])) (Dn ++ [p]) (A ++ [bgF d bodies th p] ++ wkB (ending d bodies) (lookF d bodies th p) d [] (bodies.getD p [])) := by
  subst e
  have hpr : RR d bodies th p := h.wr p (List.mem_append_right _ (List.mem_singleton_self _))
  have hb : szB d (bodies.getD p []) ≤ 7 := hsz _ (by
    have e : bodies[p]? = some bodies[p] := List.getElem?_eq_getElem hlt
    rw [getD_of e]
    exact List.getElem_mem hlt)
  have hw := wkB_len (E := ending d bodies) (look := lookF d bodies th p) (d := d) (p := []) (b := bodies.getD p [])
  have hc := callsB_len (E := ending d bodies) (d := d) (b := bodies.getD p [])
  have l1 := h.la
  have l2 := h.lw
  have l3 := h.ld
  have l4 : cnt bodies.length Dn < cnt bodies.length (Dn ++ [p]) := cnt_lt (fun y hy => List.mem_append_left _ hy) hlt hp (List.mem_append_right _ (List.mem_singleton_self _))
  rw [List.length_append, List.length_singleton] at l2
  refine ⟨fun x hx => ?_, fun x hx => ?_, fun t ht => ?_, fun q hq c hc => ?_, fun x hx => ?_, fun q hq => ?_, ?_, ?_, ?_⟩
  · rcases List.mem_append.mp hx with hx | hx
    · exact h.wr x (List.mem_append_left _ hx)
    · exact .call hpr hx
  · rcases List.mem_append.mp hx with hx | hx
    · exact h.dr x hx
    · rw [List.mem_singleton.mp hx]; exact hpr
  · rcases h.tc t ht with z | z
    · rcases List.mem_append.mp z with z | z
      · exact .inl (List.mem_append_left _ z)
      · exact .inr (List.mem_append_right _ z)
    · exact .inr (List.mem_append_left _ z)
  · rcases List.mem_append.mp hq with hq | hq
    · rcases h.cc q hq c hc with z | z
      · exact .inl (List.mem_append_left _ z)
      · rcases List.mem_append.mp z with z | z
        · exact .inr (List.mem_append_left _ z)
        · exact .inl (List.mem_append_right _ z)
    · rw [List.mem_singleton.mp hq] at hc
      exact .inr (List.mem_append_right _ hc)
  · rcases List.mem_append.mp hx with hx | hx
    · rcases List.mem_append.mp hx with hx | hx
      · obtain ⟨q, hq, z⟩ := h.a1 x hx
        exact ⟨q, List.mem_append_left _ hq, z⟩
      · exact ⟨p, List.mem_append_right _ (List.mem_singleton_self _), .inl (List.mem_singleton.mp hx)⟩
    · exact ⟨p, List.mem_append_right _ (List.mem_singleton_self _), .inr hx⟩
  · rcases List.mem_append.mp hq with hq | hq
    · exact List.mem_append_left _ (List.mem_append_left _ (h.a2 q hq))
    · rw [List.mem_singleton.mp hq]
      exact List.mem_append_left _ (List.mem_append_right _ (List.mem_singleton_self _))
  · simp only [List.length_append, List.length_singleton]; omega
  · simp only [List.length_append, List.length_singleton]; omega
  · simp only [List.length_append, List.length_singleton]; omega
theorem LWk.done {Dn A : List Nat} (h : LWk d bodies th [] Dn A) (p : Nat) : p ∈ Dn ↔ RR d bodies th p := by
  refine ⟨h.dr p, fun hr => ?_⟩
  induction hr with
  | thread ht => exact (h.tc _ ht).resolve_left (fun z => nomatch z)
  | call _ hc ih => exact (h.cc _ ih _ hc).resolve_right (fun z => nomatch z)
end
/-- the three lists of the law's alive -/
structure LH (H0 H : Hp) (wa dn al : Addr) (Wt Dn A : List Nat) : Prop where
  s : Same H0 H
  fw : H0 wa = none
  fd : H0 dn = none
  fa : H0 al = none
  n1 : wa ≠ dn
  n2 : wa ≠ al
  n3 : dn ≠ al
  hw : H wa = some (.lst (Wt.map vN))
  hd : H dn = some (.lst (Dn.map vN))
  ha : H al = some (.lst (A.map vN))
theorem LH.same {H0 H H' : Hp} {wa dn al : Addr} {Wt Dn A : List Nat} (h : LH H0 H wa dn al Wt Dn A) (e : Same H H') : LH H0 H' wa dn al Wt Dn A :=
  ⟨same_trans h.s e, h.fw, h.fd, h.fa, h.n1, h.n2, h.n3, e _ _ h.hw, e _ _ h.hd, e _ _ h.ha⟩
theorem LH.setW {H0 H : Hp} {wa dn al : Addr} {Wt Dn A : List Nat} (h : LH H0 H wa dn al Wt Dn A) (W' : List Nat) : LH H0 (upd H wa (.lst (W'.map vN))) wa dn al W' Dn A :=
  ⟨fun b o z => by rw [upd_ne (ne_of_none z h.fw)]; exact h.s _ _ z, h.fw, h.fd, h.fa, h.n1, h.n2, h.n3, upd_same, by rw [upd_ne h.n1.symm]; exact h.hd, by rw [upd_ne h.n2.symm]; exact h.ha⟩
theorem LH.setD {H0 H : Hp} {wa dn al : Addr} {Wt Dn A : List Nat} (h : LH H0 H wa dn al Wt Dn A) (D' : List Nat) : LH H0 (upd H dn (.lst (D'.map vN))) wa dn al Wt D' A :=
  ⟨fun b o z => by rw [upd_ne (ne_of_none z h.fd)]; exact h.s _ _ z, h.fw, h.fd, h.fa, h.n1, h.n2, h.n3, by rw [upd_ne h.n1]; exact h.hw, upd_same, by rw [upd_ne h.n3.symm]; exact h.ha⟩
theorem LH.setA {H0 H : Hp} {wa dn al : Addr} {Wt Dn A : List Nat} (h : LH H0 H wa dn al Wt Dn A) (A' : List Nat) : LH H0 (upd H al (.lst (A'.map vN))) wa dn al Wt Dn A' :=
  ⟨fun b o z => by rw [upd_ne (ne_of_none z h.fa)]; exact h.s _ _ z, h.fw, h.fd, h.fa, h.n1, h.n2, h.n3, by rw [upd_ne h.n2]; exact h.hw, by rw [upd_ne h.n3]; exact h.hd, upd_same⟩
theorem LH.fr {H0 H H' : Hp} {wa dn al : Addr} {Wt Dn A W' A' : List Nat} (h : LH H0 H wa dn al Wt Dn A) (f : Fr [al, wa] H H') (hw : H' wa = some (.lst (W'.map vN))) (ha : H' al = some (.lst (A'.map vN))) : LH H0 H' wa dn al W' Dn A' :=
  ⟨fun b o z => f.mem (h.s _ _ z) (by simp; exact ⟨ne_of_none z h.fa, ne_of_none z h.fw⟩), h.fw, h.fd, h.fa, h.n1, h.n2, h.n3, hw, f.mem h.hd (by simp; exact ⟨h.n3, h.n1.symm⟩), ha⟩
section
variable {P : Program} {w : World} {K : PySem.W.Frag} {mg : Str → Option Value} {base : Heap} {kd pw CP CF : Addr} {f fB : Addr} {fd fdB : FuncData}
def spLawAlive (P : Program) (w : World) (d : Nat) : Sp := fun vs H Q _ => ∃ (H0 : Hp) (fl am ao ap ae ab at_ ea : Addr) (es ps : List Addr) (sh : Sh) (bodies : List (List Stm)) (th : List Nat), vs = [.ref fl, .ref ab, .ref at_, .ref ea] ∧
  LFMid P w H0 H fl am ao ap ae (FF d bodies th) es (bgL d bodies th) ∧ H ab = some (.lst (ps.map V.ref)) ∧ Paired (BA H d) ps bodies ∧ H at_ = some (.lst (th.map vN)) ∧ H ea = some (.lst ((ending d bodies).map vN)) ∧
  bodies.length ≤ 6 ∧ sh.P = bodies.length ∧ (∀ b ∈ bodies, okB sh d b ∧ szB d b ≤ 7) ∧ d ≤ 100 ∧ th.length ≤ 4 ∧ (∀ t ∈ th, t < bodies.length) ∧ (FF d bodies th).own.length ≤ 160 ∧ (FF d bodies th).mv.length ≤ 1000 ∧
  ∀ (H' : Hp) (r : Addr) (A : List Nat), Same H H' → H' r = some (.lst (A.map vN)) → (∀ x, x ∈ A ↔ AL d bodies th x) → Q (.ref r) H'
abbrev st_law_alive : Stmt := top 64
abbrev N_law_alive : List Str := ["_law_flow_here", "_law_bodies", "_law_threads", "_law_ending_here", "_law_waiting", "_law_done", "_law_alive_here", "_law_procedure", "_law_turn", "_law_place", "_law_kind", "_law_what", "_law_to"]
theorem sc_law_alive : FnScope N_law_alive ["_law_flow_here", "_law_bodies", "_law_threads", "_law_ending_here"] (defScope st_law_alive) := ⟨rfl, rfl, rfl, by decide +kernel, rfl, by decide +kernel, by decide +kernel⟩
theorem ok_law_alive {d k : Nat} (F : GFun K mg "_law_alive" st_law_alive f fd) (T : Txt K w mg kd pw CP CF) (c_law_walk : Cal P w K mg base k "_law_walk" (spWalk P w d) []) (hk : 1 ≤ k) : Cal P w K mg base (k + 1) "_law_alive" (spLawAlive P w d) [] := by
  have b : Binds K fd ["_law_flow_here", "_law_bodies", "_law_threads", "_law_ending_here"] [] := F.fn.binds fun _ _ _ _ _ _ us hl => match us, hl with | [_, _, _, _], _ => rfl
  refine cal_of F b (F.fn.ok sc_law_alive (fun vs H Q E h => ?_) (fun cdv A outer s H vs Q E hr h => ?_))
  · obtain ⟨_, _, _, _, _, _, _, _, _, _, _, _, _, _, rfl, _⟩ := h
    rfl
  obtain ⟨H0, fl, am, ao, ap, ae, ab, at_, ea, es, ps, sh, bodies, th, rfl, M, hab, hps, hat, hea, hn6, hsh, hok, hd, hth4, hth, h160, hmv, q⟩ := h
  have hu := hu1_of hr
  have hokb : ∀ b ∈ bodies, okB sh d b := fun b hb => (hok b hb).1
  have hszb : ∀ b ∈ bodies, szB d b ≤ 7 := fun b hb => (hok b hb).2
  have hcl := calls_of_lt (d := d) hokb hsh
  have hlt : ∀ {p}, RR d bodies th p → p < bodies.length := fun h => reach_lt hokb hsh hth hcl h
  refine ⟨_, ((pss_cons (ps_par3 (i := 4) (j := 5) (l := 6) (by rfl) sc_law_alive.nd rfl rfl rfl (by decide) (by decide) (by decide) rfl rfl rfl (pa_cons (pe_callTy call_list_of (by rfl) T.n_list bt_list (pa_cons (pv 2) pa_nil)) (pa_cons (pe_lst pa_nil) (pa_cons (pe_lst pa_nil) pa_nil))) (by rfl))
  (pss_cons (ps_while PassesOwn.never (pt_cmpR (op_neD hr.units) (pv 4) (pe_lst pa_nil) (nomark _)) (pss_cons (ps_set (i := 7) sc_law_alive.nd rfl (Or.inl rfl) (pe_bm0 PySem.F.plainAttrs_list PySem.F.slot_list_pop PySem.F.type_list_pop mt_pop (pv 4)))
  (pss_one (ps_if (pt_cmpR op_notIn_seq (pv 7) (pv 5) (by rfl)) (pss_cons (ps_expr (pe_bm PySem.F.plainAttrs_list PySem.F.slot_list_append PySem.F.type_list_append mt_append (pv 5) (pa_cons (pv 7) pa_nil)))
  (pss_cons (ps_expr (pe_bm PySem.F.plainAttrs_list PySem.F.slot_list_append PySem.F.type_list_append mt_append (pv 6) (pa_cons (pe_ix ix_tup (pe_ix ix_list (pe_dget hu (pv 0) pe_str (fun _ _ => rfl)) (pv 7) (fun _ _ => rfl)) pe_int (fun _ _ => rfl)) pa_nil)))
  (pss_one (ps_expr (pe_c c_law_walk hr (by omega) (by rfl) (pa_cons (pv 0) (pa_cons (pv 7) (pa_cons (pe_ix ix_list (pv 1) (pv 7) (fun _ _ => rfl)) (pa_cons (pe_tup pa_nil) (pa_cons (pv 3) (pa_cons (pv 6) (pa_cons (pv 4) pa_nil)))))))))))) pss_nil))))
  (pss_cons (ps_for PassesOwn.never rfl (pi_range1 (by rfl) T.n_range (pa_cons (pe_callB call_len_seq (by rfl) T.n_len bt_len (pa_cons (pe_dget hu (pv 0) pe_str (fun _ _ => rfl)) pa_nil)) pa_nil)) (pg_name (i := 8) sc_law_alive.nd rfl (Or.inl rfl))
  (pss_one (ps_for PassesOwn.never rfl (pi_list (pe_dget hu (pv 0) pe_str (fun _ _ => rfl))) (pg_tup rfl (pgs_cons (pg_name (i := 9) sc_law_alive.nd rfl (Or.inl rfl)) (pgs_cons (pg_name (i := 10) sc_law_alive.nd rfl (Or.inl rfl)) (pgs_cons (pg_name (i := 11) sc_law_alive.nd rfl (Or.inl rfl)) (pgs_cons (pg_name (i := 12) sc_law_alive.nd rfl (Or.inl rfl)) pgs_nil)))))
  (pss_one (ps_if (PW.pt (pw_and (pt_cmpR op_in_seq (pv 9) (pv 6) (by rfl)) (pw_and (pt_cmpR op_notIn_seq (pv 12) (pv 6) (by rfl)) (pw_and1 (PW.pt (pw_or (pt_cmpR op_ne (pv 10) pe_str (nomark _)) (pw_or1 (pt_cmpR op_in_seq (pv 11) (pv 3) (by rfl))))))))) (pss_one (ps_expr (pe_bm PySem.F.plainAttrs_list PySem.F.slot_list_append PySem.F.type_list_append mt_append (pv 6) (pa_cons (pv 12) pa_nil)))) pss_nil)))))
  (pss_one (ps_ret (pv 6))))))), ?_⟩
  -- waiting, done, alive = (list(threads), [], [])
  refine ⟨_, rfl, at_, _, rfl, .inl (SqL.of hat), fun wa hwa => ⟨Nat.zero_le _, fun dn hdn => ⟨Nat.zero_le _, fun al hal => ?_⟩⟩⟩
  have s1 := same_new hwa (.lst (th.map vN))
  have s2 := same_new hdn (.lst [])
  have s3 := same_new hal (.lst [])
  have D0 : LH H (upd (upd (upd H wa (.lst (th.map vN))) dn (.lst [])) al (.lst [])) wa dn al th [] [] :=
    ⟨same_trans s1 (same_trans s2 s3), hwa, same_none s1 hdn, same_none (same_trans s1 s2) hal, ne_of_none upd_same hdn, ne_of_none (s2 _ _ upd_same) hal, ne_of_none upd_same hal, s3 _ _ (s2 _ _ upd_same), s3 _ _ upd_same, upd_same⟩
  refine ⟨_, _, _, rfl, ?_⟩
  generalize upd (upd (upd H wa (.lst (th.map vN))) dn (.lst [])) al (.lst []) = H4 at D0
  -- while waiting != []
  refine ⟨fun m σ H5 => ∃ (n7 : Option V) (Wt Dn A : List Nat), σ = [some (.ref fl), some (.ref ab), some (.ref at_), some (.ref ea), some (.ref wa), some (.ref dn), some (.ref al), n7, none, none, none, none, none] ∧
    LH H H5 wa dn al Wt Dn A ∧ LWk d bodies th Wt Dn A ∧ m = Wt.length + 100 * (bodies.length - cnt bodies.length Dn), ⟨_, none, th, [], [], rfl, D0, LWk.start hth4, rfl⟩, ?_⟩
  rintro m σ H5 ⟨n7, Wt, Dn, A, rfl, D, W, rfl⟩
  have hcn := cnt_le bodies.length Dn
  have hla := W.la
  have hld := W.ld
  have hlw := W.lw
  refine ⟨_, rfl, Nat.zero_le _, fun e he => ?_⟩
  have De := D.same (same_new he (.lst []))
  refine ne_nil De.hw upd_same ⟨_, rfl, ?_⟩
  generalize upd H5 e (.lst []) = H6 at De
  by_cases hW : Wt = []
  · rw [decide_eq_true hW]
    refine iteF ?_
    subst hW
    have M6 := M.same De.s
    obtain ⟨rs, m1, m2⟩ := M6.la.mv
    have hrs := paired_len m2
    have plain := plain_law (sh := sh) (d := d) (bodies := bodies) (th := th) hokb hsh hth (L0 := A) (Rl := Dn) W.done W.a1 W.a2
    -- for turn in range(len(flow['owners']))
    refine ⟨_, rfl, fl, _, rfl, M6.lf.owners, ao, _, rfl, .inl (SqL.of M6.la.own), _, rfl, by omega, by rw [List.length_map]; omega, ?_⟩
    have hnl : (((FF d bodies th).own.map vN).length : Int).toNat = (FF d bodies th).own.length := by rw [List.length_map]; rfl
    rw [hnl]
    refine for_it (walk_range (lo := 0) (n := (FF d bodies th).own.length)) (fun i σ H7 => ∃ (n8 n9 n10 n11 n12 : Option V) (Li : List Nat), σ = [some (.ref fl), some (.ref ab), some (.ref at_), some (.ref ea), some (.ref wa), some (.ref dn), some (.ref al), n7, n8, n9, n10, n11, n12] ∧
      LH H H7 wa dn al [] Dn Li ∧ relaxN (FF d bodies th).mv (ending d bodies) ((FF d bodies th).own.length - i) Li = relaxN (FF d bodies th).mv (ending d bodies) (FF d bodies th).own.length A ∧ Li.length ≤ 48 + 1000 * i) ⟨none, none, none, none, none, A, rfl, De, rfl, by omega⟩ (fun _ _ _ _ _ => trivial) ?_ ?_
    · rintro i y σ H7 H7' hi ⟨n8, n9, n10, n11, n12, Li, rfl, D7, hrel, hlen⟩ ⟨rfl, rfl⟩
      have M7 := M.same D7.s
      have m17 : H7' am = some (.lst (rs.map V.ref)) := by
        have z : ∀ {o}, H am = some o → H7' am = some o := fun e => D7.s _ _ e
        obtain ⟨rs', a1, _⟩ := M.la.mv
        have e1 := De.s _ _ a1
        rw [m1] at e1
        rw [z a1, e1]
      refine ⟨_, rfl, fl, _, rfl, M7.lf.moves, am, rfl, ⟨_, SqL.of m17⟩, ?_⟩
      have hsucc : (FF d bodies th).own.length - i = ((FF d bodies th).own.length - (i + 1)) + 1 := by omega
      rw [hsucc] at hrel
      have hrel : relaxN (FF d bodies th).mv (ending d bodies) ((FF d bodies th).own.length - (i + 1)) (relaxR (FF d bodies th).mv (ending d bodies) Li) = relaxN (FF d bodies th).mv (ending d bodies) (FF d bodies th).own.length A := hrel
      refine for_it (L2.walk_list (K := K) (a := am) (xs := rs.map V.ref)) (fun j σ H8 => ∃ (n9 n10 n11 n12 : Option V) (L : List Nat), σ = [some (.ref fl), some (.ref ab), some (.ref at_), some (.ref ea), some (.ref wa), some (.ref dn), some (.ref al), n7, some (.int (0 + (i : Int))), n9, n10, n11, n12] ∧
        LH H H8 wa dn al [] Dn L ∧ ((FF d bodies th).mv.drop j).foldl (relax1 (ending d bodies)) L = relaxR (FF d bodies th).mv (ending d bodies) Li ∧ L.length ≤ 48 + 1000 * i + j) ⟨n9, n10, n11, n12, Li, rfl, D7, rfl, hlen⟩ ?_ ?_ ?_
      · rintro j σ H8 hj ⟨_, _, _, _, _, rfl, D8, _⟩
        have z : ∀ {o}, H am = some o → H8 am = some o := fun e => D8.s _ _ e
        obtain ⟨rs', a1, _⟩ := M.la.mv
        have e1 := De.s _ _ a1
        rw [m1] at e1
        exact SqL.of (by rw [z a1, e1])
      · rintro j y σ H8 H8' hj ⟨n9, n10, n11, n12, L, rfl, D8, hfo, hlen8⟩ ⟨rfl, hy⟩
        obtain ⟨rk, hrk, rfl⟩ : ∃ rk, rs[j]? = some rk ∧ V.ref rk = y := by
          rw [List.getElem?_map] at hy
          exact Option.map_eq_some_iff.mp hy
        obtain ⟨mm, hmm, htup6⟩ := paired_at m2 hrk
        have htup : H8' rk = some (.tup (Mv.tup mm)) := by
          obtain ⟨rs', a1, a2⟩ := M.la.mv
          have e1 := De.s _ _ a1
          rw [m1] at e1
          have e2 : rs.map V.ref = rs'.map V.ref := HO.lst.inj (Option.some.inj e1)
          have e3 : rs = rs' := List.map_inj_right (fun a b h => V.ref.inj h) |>.mp e2
          subst e3
          obtain ⟨mm', hmm', ht⟩ := paired_at a2 hrk
          rw [hmm] at hmm'
          cases hmm'
          exact D8.s _ _ ht
        have hjl : j < (FF d bodies th).mv.length := (List.getElem?_eq_some_iff.mp hmm).1
        have edj := drop_cons hmm
        rw [edj] at hfo
        have hfo : ((FF d bodies th).mv.drop (j + 1)).foldl (relax1 (ending d bodies)) (relax1 (ending d bodies) L mm) = relaxR (FF d bodies th).mv (ending d bodies) Li := hfo
        have hokm := (layProcs_ok (E := ending d bodies) (R := RR d bodies th) (d := d) bodies 0 LS.nil hokb fun m hm => nomatch hm) mm (List.mem_of_getElem? hmm)
        obtain ⟨mn, mk, mw, mf⟩ := mm
        refine ⟨rk, _, rfl, SqT.of htup, rfl, _, _, rfl, _, _, rfl, _, _, rfl, _, _, rfl, rfl, ?_⟩
        have hea8 := D8.s _ _ hea
        have skip : relax1 (ending d bodies) L ⟨mn, mk, mw, mf⟩ = L → ∃ (n9 n10 n11 n12 : Option V) (L' : List Nat), [some (V.ref fl), some (.ref ab), some (.ref at_), some (.ref ea), some (.ref wa), some (.ref dn), some (.ref al), n7, some (.int (0 + (i : Int))), some (vN mn), some (.str mk), some mw, some (vN mf)] = [some (V.ref fl), some (.ref ab), some (.ref at_), some (.ref ea), some (.ref wa), some (.ref dn), some (.ref al), n7, some (.int (0 + (i : Int))), n9, n10, n11, n12] ∧
            LH H H8' wa dn al [] Dn L' ∧ ((FF d bodies th).mv.drop (j + 1)).foldl (relax1 (ending d bodies)) L' = relaxR (FF d bodies th).mv (ending d bodies) Li ∧ L'.length ≤ 48 + 1000 * i + (j + 1) := fun e => by
          rw [e] at hfo
          exact ⟨_, _, _, _, L, rfl, D8, hfo, by omega⟩
        have add : relax1 (ending d bodies) L ⟨mn, mk, mw, mf⟩ = L ++ [mf] → ∃ (n9 n10 n11 n12 : Option V) (L' : List Nat), [some (V.ref fl), some (.ref ab), some (.ref at_), some (.ref ea), some (.ref wa), some (.ref dn), some (.ref al), n7, some (.int (0 + (i : Int))), some (vN mn), some (.str mk), some mw, some (vN mf)] = [some (V.ref fl), some (.ref ab), some (.ref at_), some (.ref ea), some (.ref wa), some (.ref dn), some (.ref al), n7, some (.int (0 + (i : Int))), n9, n10, n11, n12] ∧
            LH H (upd H8' al (.lst (L.map vN ++ [vN mf]))) wa dn al [] Dn L' ∧ ((FF d bodies th).mv.drop (j + 1)).foldl (relax1 (ending d bodies)) L' = relaxR (FF d bodies th).mv (ending d bodies) Li ∧ L'.length ≤ 48 + 1000 * i + (j + 1) := fun e => by
          rw [e] at hfo
          have z := D8.setA (L ++ [mf])
          rw [map_vN_add] at z
          exact ⟨_, _, _, _, L ++ [mf], rfl, z, hfo, by rw [List.length_append, List.length_singleton]; omega⟩
        have hL9 : L.length ≤ 1000000 := by omega
        refine ⟨_, rfl, _, rfl, al, _, rfl, .inl (SqL.of D8.ha), rfl, all_flat_vN L, _, rfl, ?_⟩
        rw [inV_vN']
        by_cases hn : mn ∈ L
        · rw [decide_eq_true hn]
          refine iteT ⟨_, rfl, _, rfl, al, _, rfl, .inl (SqL.of D8.ha), rfl, all_flat_vN L, _, rfl, ?_⟩
          rw [inV_vN']
          by_cases hf : mf ∈ L
          · rw [decide_eq_true hf]
            exact iteF (iteF (skip (by unfold relax1; rw [if_neg]; simp [hf])))
          · rw [decide_eq_false hf]
            refine iteT ⟨_, rfl, rfl, _, rfl, ?_⟩
            rw [dec_str]
            by_cases hk : mk = "call"
            · rw [decide_eq_true hk]
              obtain ⟨wv, hw, _⟩ := hokm.call hk
              have hw : mw = vN wv := hw
              subst hw
              refine iteF ⟨_, rfl, _, rfl, ea, _, rfl, .inl (SqL.of hea8), rfl, all_flat_vN _, _, rfl, ?_⟩
              rw [inV_vN']
              by_cases hin : wv ∈ ending d bodies
              · rw [decide_eq_true hin]
                refine iteT ⟨_, rfl, .inl ⟨rfl, _, SqL.of D8.ha⟩, _, rfl, al, _, _, rfl, rfl, D8.ha, lt_sizeLine (by rw [List.length_map]; exact hL9), add ?_⟩
                unfold relax1 passes
                rw [if_pos]
                simp only [inV_vN']
                simp [hn, hf, hin]
              · rw [decide_eq_false hin]
                refine iteF (skip ?_)
                unfold relax1 passes
                rw [if_neg]
                simp only [inV_vN']
                simp [hk, hin]
            · rw [decide_eq_false hk]
              refine iteT (iteT ⟨_, rfl, .inl ⟨rfl, _, SqL.of D8.ha⟩, _, rfl, al, _, _, rfl, rfl, D8.ha, lt_sizeLine (by rw [List.length_map]; exact hL9), add ?_⟩)
              unfold relax1 passes
              rw [if_pos]
              simp [hn, hf, hk]
        · rw [decide_eq_false hn]
          exact iteF (iteF (skip (by unfold relax1; rw [if_neg]; simp [hn])))
      · rintro σ H8 ⟨n9, n10, n11, n12, L, rfl, D8, hfo, hlen8⟩
        have e0 : (FF d bodies th).mv.drop (rs.map V.ref).length = [] := by rw [List.length_map, hrs, List.drop_length]
        rw [e0] at hfo
        have hfo : L = relaxR (FF d bodies th).mv (ending d bodies) Li := hfo
        have hrl : (rs.map V.ref).length ≤ 1000 := by rw [List.length_map, hrs]; exact hmv
        exact ⟨_, n9, n10, n11, n12, L, rfl, D8, by rw [hfo]; exact hrel, by omega⟩
    · rintro σ H7 ⟨n8, n9, n10, n11, n12, Li, rfl, D7, hrel, hlen⟩
      rw [Nat.sub_self] at hrel
      have hrel : Li = relaxN (FF d bodies th).mv (ending d bodies) (FF d bodies th).own.length A := hrel
      refine ⟨_, rfl, q H7 al Li D7.s D7.ha fun x => ?_⟩
      rw [hrel]
      exact plain x
  rw [decide_eq_false hW]
  obtain ⟨W0, p, hWe⟩ : ∃ W0 p, Wt = W0 ++ [p] := ⟨Wt.dropLast, Wt.getLast hW, (List.dropLast_concat_getLast hW).symm⟩
  have hWlen : Wt.length = W0.length + 1 := by rw [hWe, List.length_append, List.length_singleton]
  have hpr := W.wr p (by rw [hWe]; exact List.mem_append_right _ (List.mem_singleton_self _))
  have hplt := hlt hpr
  refine iteT ⟨_, fun σ' H' h => h, ?_⟩
  -- procedure = waiting.pop()
  refine ⟨_, rfl, .inl ⟨rfl, _, SqL.of De.hw⟩, wa, _, vN p, rfl, rfl, De.hw, ?_, ?_⟩
  · rw [List.length_map, hWe, List.map_append, List.length_append, List.length_singleton]
    simp
  have e0 : (Wt.map vN).dropLast = W0.map vN := by rw [hWe, List.map_append]; exact List.dropLast_concat ..
  rw [e0]
  have D7 := De.setW W0
  generalize upd H6 wa (.lst (W0.map vN)) = H7 at D7
  refine ⟨_, rfl, _, rfl, dn, _, rfl, .inl (SqL.of D7.hd), rfl, all_flat_vN Dn, _, rfl, ?_⟩
  rw [inV_vN']
  by_cases hin : p ∈ Dn
  · rw [decide_eq_true hin]
    exact iteF ⟨_, by omega, _, W0, Dn, A, rfl, D7, W.skip hWe hin, rfl⟩
  rw [decide_eq_false hin]
  refine iteT ?_
  -- done.append(procedure)
  refine ⟨_, rfl, .inl ⟨rfl, _, SqL.of D7.hd⟩, _, rfl, dn, _, _, rfl, rfl, D7.hd, lt_sizeLine (by rw [List.length_map]; omega), ?_⟩
  have D8 := D7.setD (Dn ++ [p])
  rw [map_vN_add] at D8
  generalize upd H7 dn (.lst (Dn.map vN ++ [vN p])) = H8 at D8
  -- alive.append(flow['ends'][procedure][0])
  have M8 := M.same D8.s
  have hbl : (bgL d bodies th).length = bodies.length := begins_len _ _ _
  have hel := paired_len M8.pe
  have hes : p < es.length := by omega
  have hese : es[p]? = some es[p] := List.getElem?_eq_getElem hes
  obtain ⟨x, hx, htu⟩ := paired_at M8.pe hese
  have hbx : bgF d bodies th p = x := getD_of hx
  refine ⟨_, rfl, .inl ⟨rfl, _, SqL.of D8.ha⟩, _, rfl, fl, _, rfl, M8.lf.ends, _, rfl, ae, _, p, .ref es[p], rfl, rfl, SqL.of M8.he, atI_nat (by rw [List.getElem?_map, hese]; rfl), es[p], _, _, _, rfl, rfl, SqT.of htu, at_of (j := 0) rfl rfl, al, _, _, rfl, rfl, D8.ha, lt_sizeLine (by rw [List.length_map]; omega), ?_⟩
  have D9 := D8.setA (A ++ [x])
  rw [map_vN_add] at D9
  generalize upd H8 al (.lst (A.map vN ++ [vN x])) = H9 at D9
  have hpsl := paired_len hps
  have hpp : p < ps.length := by omega
  have hppe : ps[p]? = some ps[p] := List.getElem?_eq_getElem hpp
  obtain ⟨bd, hbd, hba⟩ := paired_at hps hppe
  have hgd : bodies.getD p [] = bd := getD_of hbd
  have hszp := hszb bd (List.mem_of_getElem? hbd)
  have PA := proc_at (th := th) hokb hplt
  rw [hgd] at PA
  have hww := wkB_len (E := ending d bodies) (look := lookP (FF d bodies th).pa p) (d := d) (p := []) (b := bd)
  have hcc := callsB_len (E := ending d bodies) (d := d) (b := bd)
  -- walk
  refine ⟨_, rfl, _, rfl, _, rfl, _, rfl, ab, _, p, .ref ps[p], rfl, rfl, SqL.of (D9.s _ _ hab), atI_nat (by rw [List.getElem?_map, hppe]; rfl), Nat.zero_le _, fun p1 hp1 => ?_⟩
  have D10 := D9.same (same_new hp1 (.tup []))
  have M10 := M.same D10.s
  have nea1 : al ≠ ea := (ne_of_none hea D10.fa).symm
  have nea2 : wa ≠ ea := (ne_of_none hea D10.fw).symm
  refine ⟨_, rfl, _, rfl, _, rfl, fl, am, ao, ap, ae, (FF d bodies th).pa, (FF d bodies th).pn, ea, al, wa, ps[p], p1, ending d bodies, A ++ [x], W0, p, [], bd, (FF d bodies th).mv, _, _, rfl, ⟨M10.lf, M10.la.pa, D10.s _ _ hea, D10.ha, D10.hw, D10.n2.symm, nea1, nea2⟩, BA_mono D10.s.tups hba, upd_same, PA.laid.2, by show 0 + 2 * d + 1 ≤ 1000; omega, by rw [List.length_append, List.length_singleton]; omega, by omega, fun H11 W11 f11 => ?_⟩
  have D11 := D10.fr f11 W11.hc W11.ha
  have WW := W.add hWe hin hplt hszb
  rw [hgd, hbx] at WW
  have l4 : cnt bodies.length Dn < cnt bodies.length (Dn ++ [p]) := cnt_lt (fun y hy => List.mem_append_left _ hy) hplt hin (List.mem_append_right _ (List.mem_singleton_self _))
  have l5 := cnt_le bodies.length (Dn ++ [p])
  refine ⟨_, ?_, _, _, _, _, rfl, D11, WW, rfl⟩
  rw [List.length_append]
  omega
end
end Dp
namespace Dp
open PySem L2
open C8 (Cal Met Mak pe_c pe_mk pe_mt pe_mt0 pe_gc InsC call_isC)
theorem cut_last (l : List V) (x : V) : cutV (l ++ [x]) none (some (-1)) = l := by
  unfold cutV HT.sIx
  simp
  have e : (-1 + ((l.length : Int) + 1)).toNat = l.length := by omega
  rw [e]
  exact List.take_left' rfl
theorem ixN_n {n j : Nat} (hj : j < n) : ixN n (j : Int) = some j := by
  unfold ixN
  rw [if_pos (by omega), if_pos (by omega)]
  rfl
theorem paired_set {α β : Type} {F : α → β → Prop} : ∀ {l : List α} {m : List β} {x : α} {y : β} (i : Nat), Paired F l m → F x y → Paired F (l.set i x) (m.set i y)
  | _, _, _, _, _, .nil, _ => .nil
  | _, _, _, _, 0, .cons _ t, h => .cons h t
  | _, _, _, _, i + 1, .cons r t, h => .cons r (paired_set i t h)
theorem DrawnAt.draws {H H' : Hp} {pt t sp ab at_ : Addr} {sh : Sh} {ps : List Addr} {bodies : List (List Stm)} {th : List Nat} (h : DrawnAt H pt t sp ab at_ sh ps bodies th) (f : Fr [pt] H H') (hp : PotAt H' pt) : DrawnAt H' pt t sp ab at_ sh ps bodies th :=
  ⟨f.tups _ _ h.ht, f.tups _ _ h.hsp, f.mem h.hab (by simpa using h.n2), paired_mono (fun _ _ z => BA_mono f.tups z) h.hps, f.mem h.hat (by simpa using h.n3), hp, h.n1, h.n2, h.n3⟩
theorem DrawnAt.same {H H' : Hp} {pt t sp ab at_ : Addr} {sh : Sh} {ps : List Addr} {bodies : List (List Stm)} {th : List Nat} (h : DrawnAt H pt t sp ab at_ sh ps bodies th) (s : Same H H') : DrawnAt H' pt t sp ab at_ sh ps bodies th := h.draws (Fr.same s) (h.pot.same s)
/-- a body is put in another's stead -/
theorem DrawnAt.put {H : Hp} {pt t sp ab at_ q : Addr} {sh : Sh} {ps : List Addr} {bodies : List (List Stm)} {th : List Nat} (h : DrawnAt H pt t sp ab at_ sh ps bodies th) (i : Nat) {b : List Stm} (hb : BA H 3 q b) :
    DrawnAt (upd H ab (.lst ((ps.map V.ref).set i (.ref q)))) pt t sp ab at_ sh (ps.set i q) (bodies.set i b) th := by
  have tt := tups_lst (o := .lst ((ps.map V.ref).set i (.ref q))) h.hab
  obtain ⟨a, c, e, r⟩ := h.pot
  exact ⟨tt _ _ h.ht, tt _ _ h.hsp, by rw [upd_same, List.map_set], paired_set i (paired_mono (fun _ _ z => BA_mono tt z) h.hps) (BA_mono tt hb), by rw [upd_ne h.n1.symm]; exact h.hat, ⟨a, c, by rw [upd_ne h.n2.symm]; exact e, r⟩, h.n1, h.n2, h.n3⟩
section
variable {P : Program} {w : World} {K : PySem.W.Frag} {mg : Str → Option Value} {base : Heap} {kd pw CP CF : Addr} {f fB : Addr} {fd fdB : FuncData}
theorem kbinds_dead {st : Stmt} {fD : Addr} {fdD : FuncData} (F : L2.Fun K "dead_places" "dead_places" st fD fdD)
    (h : ∀ (kV doc pm : Value) (an : Option Addr) (cdv ct : Value) (u : Value), bindArgs (PySem.W.fnOf "dead_places" "dead_places" (defArgs st) (defBody st) (defScope st) .none kV doc pm an cdv ct) ⟨[u], []⟩ = pure [(("program" : Str), u)])
    (h2 : ∀ (kV doc pm : Value) (an : Option Addr) (cdv ct : Value) (u : Value), bindArgs (PySem.W.fnOf "dead_places" "dead_places" (defArgs st) (defBody st) (defScope st) .none kV doc pm an cdv ct) ⟨[], [(("program" : Str), u)]⟩ = pure [(("program" : Str), u)]) :
    KBinds K fdD ["program"] ["program"] (fun us ws => us ++ ws) (fun vs zs => vs ++ zs) := by
  obtain ⟨oc, od, kV, doc, pm, an, cdv, ct, osl, rfl, lk, hcd⟩ := F.ex
  refine ⟨fun s us ws X hl => ?_, fun r1 r2 => r1.append r2⟩
  match us, ws, hl with
  | [], [x], _ => exact .of_eq (h2 kV doc pm an cdv ct x)
  | [u], [], _ => exact .of_eq (h kV doc pm an cdv ct u)
def spRight : Sp := fun vs H Q _ => ∃ pt : Addr, vs = [.ref pt] ∧ PotAt H pt ∧ ∀ H', Q (.bl true) H'
abbrev st_law_right : Stmt := top 65
abbrev N_law_right : List Str := ["_law_pot_here", "_law_drawn_here", "_law_shape", "_law_bodies", "_law_threads", "_law_procedure", "_law_program", "_law_flow_here", "_law_ending_here", "_law_alive_here", "_law_due", "_law_told", "_law_place"]
theorem sc_law_right : FnScope N_law_right ["_law_pot_here"] (defScope st_law_right) := ⟨rfl, rfl, rfl, by decide +kernel, rfl, by decide +kernel, by decide +kernel⟩
theorem ok_law_right {k : Nat} (F : GFun K mg "_law_right" st_law_right f fd) (T : Txt K w mg kd pw CP CF) (c_law_draw : Cal P w K mg base 1 "_law_draw" spDraw []) (c_law_drawn : Cal P w K mg base k "_law_drawn" spDrawn []) (c_law_made : Cal P w K mg base k "_law_made" (spMade CP) [])
    (c_law_flow : Cal P w K mg base k "_law_flow" (spLawFlow P w 3) []) (c_law_ending : Cal P w K mg base k "_law_ending" (spEnding 3) []) (c_law_alive : Cal P w K mg base k "_law_alive" (spLawAlive P w 3) []) (c_dead_places : Cal P w K mg base k "dead_places" (spDeadPlaces P w CP CF 3) [])
    {fD : Addr} {fdD : FuncData} (okD : FnOk P w K mg base CX0 k fD fdD ["program"] (spDeadPlaces P w CP CF 3)) (mgD : mg "dead_places" = some (.ref fD)) (kpD : PySem.W.keepIn K (.ref fD) = true) (kbD : KBinds K fdD ["program"] ["program"] (fun us ws => us ++ ws) (fun vs zs => vs ++ zs)) (hk : 1 ≤ k) :
    Cal P w K mg base (k + 1) "_law_right" spRight [] := by
  have b : Binds K fd ["_law_pot_here"] [] := F.fn.binds fun _ _ _ _ _ _ us hl => match us, hl with | [_], _ => rfl
  refine cal_of F b (F.fn.ok sc_law_right (fun vs H Q E h => ?_) (fun cdv A outer s H vs Q E hr h => ?_))
  · obtain ⟨_, rfl, _⟩ := h
    rfl
  obtain ⟨pt, rfl, hp, q⟩ := h
  have hu := hu1_of hr
  refine ⟨_, ((pss_cons (ps_set (i := 1) sc_law_right.nd rfl (Or.inl rfl) (pe_c c_law_drawn hr (by omega) (by rfl) (pa_cons (pv 0) (pa_cons pe_int (pa_cons pe_int pa_nil)))))
  (pss_cons (ps_asg (pv 1) (pg_tup rfl (pgs_cons (pg_name (i := 2) sc_law_right.nd rfl (Or.inl rfl)) (pgs_cons (pg_name (i := 3) sc_law_right.nd rfl (Or.inl rfl)) (pgs_cons (pg_name (i := 4) sc_law_right.nd rfl (Or.inl rfl)) pgs_nil)))))
  (pss_cons (ps_for PassesOwn.never rfl (pi_range1 (by rfl) T.n_range (pa_cons (pe_ix ix_tup (pv 2) pe_int (fun _ _ => rfl)) pa_nil)) (pg_name (i := 5) sc_law_right.nd rfl (Or.inl rfl))
  (pss_one (ps_if (pt_cmpR op_eq (pe_c c_law_draw hr (by omega) (by rfl) (pa_cons (pv 0) (pa_cons pe_int pa_nil))) pe_int (nomark _)) (pss_one (ps_asg (pe_op op_catB (pe_ix ix_list (pv 3) (pv 5) (fun _ _ => rfl)) (pe_tup (pa_cons (pe_tup (pa_cons pe_str (pa_cons (pe_c c_law_draw hr (by omega) (by rfl) (pa_cons (pv 0) (pa_cons (pe_ix ix_tup (pv 2) pe_int (fun _ _ => rfl)) pa_nil))) pa_nil))) pa_nil))) (pg_sub (pv 3) (pv 5) set_list))) pss_nil)))
  (pss_cons (ps_par3 (i := 6) (j := 7) (l := 8) (by rfl) sc_law_right.nd rfl rfl rfl (by decide) (by decide) (by decide) rfl rfl rfl (pa_cons (pe_c c_law_made hr (by omega) (by rfl) (pa_cons (pv 1) pa_nil)) (pa_cons (pe_c c_law_flow hr (by omega) (by rfl) (pa_cons (pv 3) pa_nil)) (pa_cons (pe_c c_law_ending hr (by omega) (by rfl) (pa_cons (pv 3) pa_nil)) pa_nil))) (by rfl))
  (pss_cons (ps_set (i := 9) sc_law_right.nd rfl (Or.inr rfl) (pe_c c_law_alive hr (by omega) (by rfl) (pa_cons (pv 7) (pa_cons (pv 3) (pa_cons (pv 4) (pa_cons (pv 8) pa_nil))))))
  (pss_cons (ps_setLc (i := 10) (own := [("_law_place", 12)]) (tt := tTest (tOp (rIn K true) (tVar 12) (tVar 9))) (by rfl) sc_law_right.nd rfl rfl (sw_true rfl rfl rfl (by decide +kernel)) (pi_range1 (by rfl) T.n_range (pa_cons (pe_callB call_len_seq (by rfl) T.n_len bt_len (pa_cons (pe_dget hu (pv 7) pe_str (fun _ _ => rfl)) pa_nil)) pa_nil)) (blkOk_by (own := [("_law_place", 12)]) (N := N_law_right) (sc := defScope st_law_right) (by decide +kernel)) (fun _ _ _ _ _ => (pg_name (i := 12) sc_law_right.nd rfl (Or.inl rfl))) (fun _ _ _ _ _ => (pts_one (pt_cmpR op_notIn_seq (pv 12) (pv 9) (by rfl)))) (fun _ _ _ _ _ => (pv 12)))
  (pss_cons (ps_set (i := 11) sc_law_right.nd rfl (Or.inl rfl) (pe_c c_dead_places hr (by omega) (by rfl) (pa_cons (pv 6) pa_nil)))
  (pss_cons (ps_expr (pe_bm PySem.F.plainAttrs_list PySem.F.slot_list_append PySem.F.type_list_append mt_append (pv 11) (pa_cons pe_non pa_nil)))
  (pss_one (ps_ret (pe_and (pe_cmpR (op_eqD hr.units) (pe_slice sl_list (pv 11) po_none (po_some (pe_un un_neg pe_int))) (pv 10) (nomark _)) (pe_one (pe_cmpR (op_eqD hr.units) (pe_callK0 (E := C8.E0) okD (hr.mono (by omega)) (by rfl) mgD kpD kbD C8.pass0 (pk_cons (pv 6) pk_nil)) (pv 10) (nomark _))))))))))))))), ?_⟩
  -- drawn
  refine ⟨_, rfl, pt, rfl, hp, fun H1 t sp ab at_ sh ps bodies th D O => ?_⟩
  refine ⟨_, rfl, t, _, rfl, SqT.of D.ht, rfl, _, _, rfl, _, _, rfl, _, _, rfl, rfl, ?_⟩
  have hP3 := O.P
  -- for procedure in range(shape[3])
  refine ⟨_, rfl, sp, _, _, _, rfl, rfl, SqT.of D.hsp, at_of (j := 3) rfl rfl, _, rfl, by omega, by omega, ?_⟩
  refine for_it (walk_range (lo := 0) (n := ((sh.P : Nat) : Int).toNat)) (fun i σ H2 => ∃ (n5 : Option V) (ps' : List Addr) (bd' : List (List Stm)), σ = [some (.ref pt), some (.ref t), some (.ref sp), some (.ref ab), some (.ref at_), n5, none, none, none, none, none, none, none] ∧
    DrawnAt H2 pt t sp ab at_ sh ps' bd' th ∧ bd'.length = sh.P ∧ (∀ b ∈ bd', okB sh 3 b) ∧ ∀ (j : Nat) (b : List Stm), bd'[j]? = some b → szB 3 b ≤ 7 ∧ (i ≤ j → szB 3 b ≤ 6)) ?_ (fun _ _ _ _ _ => trivial) ?_ ?_
  · exact ⟨none, ps, bodies, rfl, D, O.len, O.ok, fun j b hb => ⟨by have := O.sz b (List.mem_of_getElem? hb); omega, fun _ => O.sz b (List.mem_of_getElem? hb)⟩⟩
  · rintro i y σ H2 H2' hi ⟨n5, ps', bd', rfl, D2, hl2, hok2, hsz2⟩ ⟨rfl, rfl⟩
    have hi' : i < sh.P := hi
    refine ⟨_, rfl, pt, 3, rfl, D2.pot, by decide, by decide, fun dg H3 hdg f3 hp3 => ⟨rfl, _, rfl, ?_⟩⟩
    have D3 := D2.draws f3 hp3
    by_cases hz : V.int (dg : Int) = V.int 0
    · rw [decide_eq_true hz]
      have hpsl := paired_len D3.hps
      have hip : i < ps'.length := by omega
      have hpe : ps'[i]? = some ps'[i] := List.getElem?_eq_getElem hip
      obtain ⟨bd, hbd, xs, hxs, hxp⟩ := paired_at D3.hps hpe
      have hle : xs.length ≤ 7 := by
        have h1 := paired_len hxp
        have h2 := szL_len (d := 3) (b := bd)
        have h3 := (hsz2 i bd hbd).1
        omega
      refine iteT ⟨_, rfl, _, rfl, ab, _, _, .ref ps'[i], rfl, rfl, SqL.of D3.hab, (by rw [Int.zero_add]; exact atI_nat (by rw [List.getElem?_map, hpe]; rfl)), _, rfl, _, rfl, sp, _, _, _, rfl, rfl, SqT.of D3.hsp, at_of (j := 3) rfl rfl, pt, sh.P, rfl, D3.pot, O.P1, by omega, fun c H4 hc f4 hp4 => ⟨by show 2 ≤ sizeLine; decide, fun t1 ht1 => ⟨by show 1 ≤ sizeLine; decide, fun t2 ht2 => ?_⟩⟩⟩
      have D4 := D3.draws f4 hp4
      have s5 := same_new ht1 (.tup [.str "call", vN c])
      have s6 := same_new ht2 (.tup [.ref t1])
      have s56 := same_trans s5 s6
      refine ⟨ps'[i], t2, _, _, rfl, rfl, SqT.of (s56 _ _ (f4.tups _ _ hxs)), upd_same, (fun z => by cases z), (by show xs.length + 1 ≤ sizeLine; exact Nat.le_of_lt (lt_sizeLine (by omega))), fun qn H7 s7 hq7 => ?_⟩
      have s57 := same_trans s56 s7
      have D7 := D4.same s57
      have hip7 : i < ps'.length := hip
      refine ⟨_, rfl, _, rfl, ab, _, _, i, rfl, rfl, D7.hab, (by rw [Int.zero_add]; exact ixN_n (by rw [List.length_map]; exact hip)), ?_⟩
      have hnew : BA H7 3 qn (bd ++ [.plain .call c]) := ⟨xs ++ [.ref t1], hq7, paired_add (paired_mono (fun _ _ z => SA_mono (f4.tups.trans s57.tups) _ z) hxp) ⟨t1, rfl, s7 _ _ (s6 _ _ upd_same)⟩⟩
      refine ⟨_, _, _, rfl, D7.put i hnew, by rw [List.length_set]; exact hl2, fun b hb => ?_, fun j b hb => ?_⟩
      · rcases List.mem_or_eq_of_mem_set hb with hb | rfl
        · exact hok2 b hb
        · intro s' hs'
          rcases List.mem_append.mp hs' with hs' | hs'
          · exact hok2 bd (List.mem_of_getElem? hbd) s' hs'
          · rw [List.mem_singleton.mp hs']; exact hc
      · rw [List.getElem?_set] at hb
        by_cases hij : i = j
        · rw [if_pos hij] at hb
          have hb' : b = bd ++ [.plain .call c] := by
            split at hb
            · exact (Option.some.inj hb).symm
            · cases hb
          rw [hb']
          have h1 : szB 3 (bd ++ [.plain .call c]) = szB 3 bd + (1 + 0) := szL_append _ _ _
          have h2 := (hsz2 i bd hbd).2 (Nat.le_refl i)
          exact ⟨by omega, fun h => by omega⟩
        · rw [if_neg hij] at hb
          obtain ⟨h1, h2⟩ := hsz2 j b hb
          exact ⟨h1, fun h => h2 (by omega)⟩
    · rw [decide_eq_false hz]
      exact iteF ⟨_, ps', bd', rfl, D3, hl2, hok2, fun j b hb => ⟨(hsz2 j b hb).1, fun h => (hsz2 j b hb).2 (by omega)⟩⟩
  rintro σ H2 ⟨n5, ps2, bd2, rfl, D2, hl2, hok2, hsz2⟩
  have O2 : DrawnOk sh bd2 th 7 := ⟨O.L, O.C, O.M1, O.M, O.P1, O.P, hl2, hok2, fun b hb => by
    obtain ⟨j, hj⟩ := List.mem_iff_getElem?.mp hb
    exact (hsz2 j b hj).1, O.t1, O.t2, O.th⟩
  have hsh : sh.P = bd2.length := hl2.symm
  have hokz : ∀ b ∈ bd2, okB sh 3 b ∧ szB 3 b ≤ 7 := fun b hb => ⟨hok2 b hb, O2.sz b hb⟩
  have hth : ∀ t ∈ th, t < bd2.length := fun t ht => by rw [← hsh]; exact O.th t ht
  have ht2 := O.t2
  -- program, flow, ending
  refine ⟨_, rfl, pt, t, sp, ab, at_, sh, ps2, bd2, th, rfl, D2, O2, fun H3 x s3 hPr => ?_⟩
  have D3 := D2.same s3
  refine ⟨_, rfl, ending 3 bd2, RR 3 bd2 th, ab, ps2, bd2, rfl, D3.hab, D3.hps, by omega, fun b hb => by have := O2.sz b hb; omega, by decide, fun H4 fl am ao ap ae es M => ?_⟩
  have s4 := M.s
  have D4 := D3.same s4
  refine ⟨_, rfl, ab, ps2, bd2, rfl, D4.hab, D4.hps, by omega, fun H5 ea s5 hea => ⟨_, _, _, rfl, ?_⟩⟩
  have D5 := D4.same s5
  have M5 := M.same s5
  have hP5 := (hPr.keep s4).keep s5
  -- alive
  have hz : LS.nil.own.length = 0 := rfl
  have hw0 : LS.nil.wt = 0 := rfl
  have h1 := layProcs_ow (E := ending 3 bd2) (R := RR 3 bd2 th) (d := 3) bd2 0 LS.nil O2.sz
  have h2 := layProcs_wt (E := ending 3 bd2) (R := RR 3 bd2 th) (d := 3) bd2 0 LS.nil O2.sz
  have h3 : (layProcs (ending 3 bd2) (RR 3 bd2 th) 3 bd2 0 LS.nil).mv.length ≤ (layProcs (ending 3 bd2) (RR 3 bd2 th) 3 bd2 0 LS.nil).wt := by unfold LS.wt; omega
  have hown : (FF 3 bd2 th).own.length ≤ 160 := by show (layProcs (ending 3 bd2) (RR 3 bd2 th) 3 bd2 0 LS.nil).own.length ≤ 160; omega
  have hmvl : (FF 3 bd2 th).mv.length ≤ 1000 := by show (layProcs (ending 3 bd2) (RR 3 bd2 th) 3 bd2 0 LS.nil).mv.length ≤ 1000; omega
  refine ⟨_, rfl, _, rfl, _, rfl, _, rfl, _, fl, am, ao, ap, ae, ab, at_, ea, es, ps2, sh, bd2, th, rfl, M5, D5.hab, D5.hps, D5.hat, hea, by omega, hsh, hokz, by decide, by omega, hth, hown, hmvl, fun H6 al AA s6 hal hAA => ?_⟩
  have M6 := M5.same s6
  have hP6 := hP5.keep s6
  -- due
  refine ⟨_, rfl, fl, _, rfl, M6.lf.owners, ao, _, rfl, .inl (SqL.of M6.la.own), _, rfl, by omega, by rw [List.length_map]; omega, fun Dd hDd => ?_⟩
  have hnl : (((FF 3 bd2 th).own.map vN).length : Int).toNat = (FF 3 bd2 th).own.length := by rw [List.length_map]; rfl
  rw [hnl]
  refine lc_range (lo := 0) (n := (FF 3 bd2 th).own.length) (fun i H7 => Same H6 H7 ∧ H7 Dd = some (.lst (((List.range i).filter fun y => !decide (y ∈ AA)).map vN))) ⟨same_new hDd _, upd_same⟩ ?_ ?_
  · rintro i H7 hi ⟨h1, h2⟩
    refine ⟨rfl, _, rfl, _, rfl, al, _, rfl, .inl (SqL.of (h1 _ _ hal)), rfl, all_flat_vN AA, _, rfl, ?_⟩
    have ei : V.int (0 + (i : Int)) = vN i := by rw [Int.zero_add]
    rw [ei, inV_vN']
    have hlen : ((List.range i).filter fun y => !decide (y ∈ AA)).length ≤ i := by
      have := List.length_filter_le (fun y => !decide (y ∈ AA)) (List.range i)
      rw [List.length_range] at this
      exact this
    by_cases hin : i ∈ AA
    · rw [decide_eq_true hin]
      refine iteF ⟨h1, ?_⟩
      rw [List.range_succ, List.filter_append, List.filter_cons, decide_eq_true hin]
      simpa using h2
    · rw [decide_eq_false hin]
      refine iteT ⟨_, rfl, _, h2, lt_sizeLine (by rw [List.length_map]; omega), fun c o z => ?_, ?_⟩
      · rw [upd_ne (ne_of_none z hDd)]
        exact h1 _ _ z
      · rw [upd_same, List.range_succ, List.filter_append, List.filter_cons, decide_eq_false hin]
        simp
  rintro H7 ⟨s7, hD7⟩
  have hP7 := hP6.keep s7
  have same_list : ∀ A' : List Nat, (∀ y, y ∈ A' ↔ AL 3 bd2 th y) → ((List.range (FF 3 bd2 th).own.length).filter fun y => !decide (y ∈ A')) = ((List.range (FF 3 bd2 th).own.length).filter fun y => !decide (y ∈ AA)) := fun A' hA' => by
    refine List.filter_congr fun y _ => ?_
    have e : (y ∈ A') ↔ (y ∈ AA) := (hA' y).trans (hAA y).symm
    rw [decide_eq_decide.mpr e]
  -- told = dead_places(program)
  refine ⟨_, rfl, x, sh, bd2, th, rfl, hP7, by omega, hsh, hokz, by decide, by omega, hth, fun H8 r A' s8 hr8 hrn hA' => ?_⟩
  rw [same_list A' hA'] at hr8
  have hD8 := s8 _ _ hD7
  have hrD : Dd ≠ r := ne_of_none hD7 hrn
  -- told.append(None)
  refine ⟨_, rfl, .inl ⟨rfl, _, SqL.of hr8⟩, r, _, _, rfl, rfl, hr8, lt_sizeLine (by
    rw [List.length_map]
    have := List.length_filter_le (fun y => !decide (y ∈ AA)) (List.range (FF 3 bd2 th).own.length)
    rw [List.length_range] at this
    omega), ?_⟩
  have s9 : Same H7 (upd H8 r (.lst (((List.range (FF 3 bd2 th).own.length).filter fun y => !decide (y ∈ AA)).map vN ++ [.non]))) := fun c o e => by
    rw [upd_ne (ne_of_none e hrn)]
    exact s8 _ _ e
  have hr9 : (upd H8 r (.lst (((List.range (FF 3 bd2 th).own.length).filter fun y => !decide (y ∈ AA)).map vN ++ [.non]))) r = some (.lst (((List.range (FF 3 bd2 th).own.length).filter fun y => !decide (y ∈ AA)).map vN ++ [.non])) := upd_same
  have hD9 := s9 _ _ hD7
  have hP9 := hP7.keep s9
  generalize upd H8 r (.lst (((List.range (FF 3 bd2 th).own.length).filter fun y => !decide (y ∈ AA)).map vN ++ [.non])) = H9 at hr9 hD9 hP9
  -- told[:-1] == due
  refine ⟨_, rfl, _, rfl, _, rfl, r, _, rfl, SqL.of hr9, fun sl hsl => ?_⟩
  rw [cut_last]
  have s10 := same_new hsl (.lst (((List.range (FF 3 bd2 th).own.length).filter fun y => !decide (y ∈ AA)).map vN))
  have hP10 := hP9.keep s10
  have hD10 := s10 _ _ hD9
  refine ⟨_, rfl, eq_ints upd_same hD10 ⟨_, rfl, iteT ?_⟩⟩
  -- dead_places(program=program) == due
  refine ⟨_, rfl, x, sh, bd2, th, rfl, hP10, by omega, hsh, hokz, by decide, by omega, hth, fun H11 r2 A2 s11 hr11 hrn2 hA2 => ?_⟩
  rw [same_list A2 hA2] at hr11
  exact ⟨_, rfl, eq_ints hr11 (s11 _ _ hD10) (q H11)⟩
end
end Dp
namespace Dp
open PySem L2
open C8 (Cal Met Mak pe_c pe_mk pe_mt pe_mt0 pe_gc InsC call_isC)
section
variable {P : Program} {w : World} {K : PySem.W.Frag} {mg : Str → Option Value} {base : Heap} {kd pw CP CF : Addr} {f fB : Addr} {fd fdB : FuncData}
def spPot (K : PySem.W.Frag) : Sp := fun vs H Q _ => ∃ (a : Addr) (ns : List Int), vs = [.ref a, .int 0] ∧ SqL K H a (ns.map V.int) ∧ ns.length ≤ 63 ∧ ∀ p H', PotAt H' p → Q (.ref p) H'
abbrev st_law_pot : Stmt := top 50
abbrev N_law_pot : List Str := ["_law_script", "_law_k", "_law_cell"]
theorem sc_law_pot : FnScope N_law_pot ["_law_script", "_law_k"] (defScope st_law_pot) := ⟨rfl, rfl, rfl, by decide +kernel, rfl, by decide +kernel, by decide +kernel⟩
theorem ok_law_pot (F : GFun K mg "_law_pot" st_law_pot f fd) (T : Txt K w mg kd pw CP CF) : Cal P w K mg base 1 "_law_pot" (spPot K) [] := by
  have b : Binds K fd ["_law_script", "_law_k"] [] := F.fn.binds fun _ _ _ _ _ _ us hl => match us, hl with | [_, _], _ => rfl
  refine cal_of F b (F.fn.ok sc_law_pot (fun vs H Q E h => ?_) (fun cdv A outer s H vs Q E hr h => ?_))
  · obtain ⟨_, _, rfl, _⟩ := h
    rfl
  obtain ⟨a, ns, rfl, hs, h63, q⟩ := h
  refine ⟨_, ((pss_cons (ps_set (i := 2) sc_law_pot.nd rfl (Or.inl rfl) (pe_ifExp (pt_cmpR op_lt (pv 1) (pe_callB call_len_seq (by rfl) T.n_len bt_len (pa_cons (pv 0) pa_nil)) (nomark _)) (pe_callB call_abs (by rfl) T.n_abs bt_abs (pa_cons (pe_ix ix_list (pv 0) (pv 1) (fun _ _ => rfl)) pa_nil)) (pe_op op_add (pe_op op_mul pe_int (pv 1)) pe_int)))
  (pss_one (ps_ret (pe_lst (pa_cons (pe_callB (call_max2 rfl) (by rfl) T.n_max bt_max (pa_cons pe_int (pa_cons (pe_op op_sub (pv 2) (pe_op op_pow pe_int pe_int)) pa_nil))) (pa_cons (pe_op op_add (pe_op op_mod (pe_callTy call_int1 (by rfl) T.n_int bt_int (pa_cons (pe_op op_add (pe_op op_add (pe_op op_mul (pe_op op_mod (pe_callTy call_int1 (by rfl) T.n_int bt_int (pa_cons (pv 2) pa_nil)) pe_int) pe_int) (pe_op op_mul pe_int (pv 1))) pe_int) pa_nil)) pe_int) pe_int) pa_nil))))))), ?_⟩
  have fin : ∀ (cell : Int), 0 ≤ cell → ∀ p, H p = none → Q (.ref p) (upd H p (.lst [.int (if cell - 10 ^ (18 : Int).toNat > 0 then cell - 10 ^ (18 : Int).toNat else 0), .int ((cell % 2147483549 * 40692 + 3011 * 0 + 101) % 2147483563 + 1)])) := fun cell hc p hp => by
    refine q p _ ⟨_, _, upd_same, ?_, ?_, ?_⟩
    · split <;> omega
    · have := Int.emod_nonneg (cell % 2147483549 * 40692 + 3011 * 0 + 101) (show (2147483563 : Int) ≠ 0 by decide)
      omega
    · have := Int.emod_lt_of_pos (cell % 2147483549 * 40692 + 3011 * 0 + 101) (show (0 : Int) < 2147483563 by decide)
      omega
  refine ⟨_, rfl, _, rfl, a, _, rfl, .inl hs, _, _, rfl, rfl, _, rfl, ?_⟩
  apply join_if (fun σ' H' => ∃ cell : Int, 0 ≤ cell ∧ σ' = [some (.ref a), some (.int 0), some (.int cell)] ∧ H' = H)
  · intro mn
    cases ns with
    | nil =>
      rw [decide_eq_false (show ¬ (0 : Int) < ((([] : List Int).map V.int).length : Int) by decide)]
      refine iteF ⟨_, rfl, _, _, rfl, rfl, .inl ⟨by decide, by decide⟩, _, _, rfl, rfl, ?_⟩
      exact mn _ _ ⟨113 * 0 + 107, by decide, rfl, rfl⟩
    | cons z r =>
      rw [decide_eq_true (show (0 : Int) < (((z :: r).map V.int).length : Int) by rw [List.length_map, List.length_cons]; omega)]
      refine iteT ⟨_, rfl, _, rfl, a, _, _, _, rfl, rfl, hs, at_of (j := 0) rfl rfl, _, rfl, ?_⟩
      exact mn _ _ ⟨if z < 0 then -z else z, by split <;> omega, rfl, rfl⟩
  rintro σ' H' ⟨cell, hc, rfl, rfl⟩
  refine ⟨_, rfl, _, _, rfl, rfl, ⟨by decide, by decide, by decide⟩, _, _, rfl, rfl, _, _, rfl, ?_⟩
  refine ⟨_, rfl, .inl ⟨_, rfl, ?_⟩⟩
  refine ⟨_, _, rfl, rfl, (by show (0 : Int) < 2147483549; decide), _, _, rfl, rfl, .inr ⟨by decide, by decide⟩, _, rfl, _, _, rfl, rfl, .inl ⟨by decide, by decide⟩, _, _, rfl, rfl, _, _, rfl, rfl, .inl ⟨_, rfl, ?_⟩⟩
  refine ⟨_, _, rfl, rfl, (by show (0 : Int) < 2147483563; decide), _, _, rfl, rfl, by show 2 ≤ sizeLine; decide, fun p hp => ?_⟩
  exact fin cell hc p hp
def spLaw (K : PySem.W.Frag) : Sp := fun vs H Q _ => ∃ (a : Addr) (ns : List Int), vs = [.ref a] ∧ SqL K H a (ns.map V.int) ∧ ns.length ≤ 63 ∧ ∀ H', Q (.bl true) H'
abbrev st_law : Stmt := top 66
abbrev N_law : List Str := ["_law_script"]
theorem sc_law : FnScope N_law ["_law_script"] (defScope st_law) := ⟨rfl, rfl, rfl, by decide +kernel, rfl, by decide +kernel, by decide +kernel⟩
theorem ok_law {k : Nat} (F : L2.Fun K "law" "law" st_law f fd) (c_law_right : Cal P w K mg base k "_law_right" spRight []) (c_law_pot : Cal P w K mg base 1 "_law_pot" (spPot K) []) (hk : 1 ≤ k) : FnOk P w K mg base CX0 (k + 1) f fd ["_law_script"] (spLaw K) := by
  refine F.ok sc_law (fun vs H Q E h => ?_) (fun cdv A outer s H vs Q E hr h => ?_)
  · obtain ⟨_, _, rfl, _⟩ := h
    rfl
  obtain ⟨a, ns, rfl, hs, h63, q⟩ := h
  refine ⟨_, ((pss_one (ps_ret (pe_c c_law_right hr (by omega) (by rfl) (pa_cons (pe_c c_law_pot hr (by omega) (by rfl) (pa_cons (pv 0) (pa_cons pe_int pa_nil))) pa_nil))))), ?_⟩
  exact ⟨_, rfl, a, ns, rfl, hs, h63, fun p H' hp => ⟨p, rfl, hp, q⟩⟩
end
end Dp
namespace Dp
open PySem L2
open C8 (Cal Met Mak pe_c pe_mk pe_mt pe_mt0 pe_gc InsC call_isC)
section
variable {P : Program} {w : World} {K : PySem.W.Frag} {mg : Str → Option Value} {base : Heap} {kd pw CP CF : Addr} {f : Addr} {fd : FuncData}
/-! ### the check of bodies, the recursion closed -/
abbrev FunB (K : PySem.W.Frag) (f : Addr) (fd : FuncData) : Prop := FunD K "is_body_of" "is_body_of" (defArgs st_is_body_of) (defBody st_is_body_of) (defScope st_is_body_of) [.int 6] [] f fd
theorem cal_body {d k : Nat} (F : FunB K f fd) (hm : mg "is_body_of" = some (.ref f)) (ok : FnOk P w K mg base CX0 k f fd ["shape", "value", "deep"] (spIsBody K d)) : Cal P w K mg base k "is_body_of" (spIsBody K d) [] := by
  obtain ⟨ds, hv, hb⟩ := F.binds1 (ps := ["shape", "value", "deep"]) 3 1 (by simp) rfl (fun _ _ _ _ _ _ _ us its hl h1 => match us, its, hl, h1 with | [_, _, _], [_], _, _ => ⟨_, rfl, rfl⟩)
  have e : ds = [] := by
    have z : Vals ([] : List V) ds := hv
    cases z
    rfl
  subst e
  exact ⟨f, fd, ["shape", "value", "deep"], [], ok, hm, F.kp, hb, .nil⟩
theorem cal_body6 {d k : Nat} (F : FunB K f fd) (hm : mg "is_body_of" = some (.ref f)) (ok : FnOk P w K mg base CX0 k f fd ["shape", "value", "deep"] (spIsBody K d)) : Cal P w K mg base k "is_body_of" (spIsBody K d) [.int 6] := by
  obtain ⟨ds, hv, hb⟩ := F.binds1 (ps := ["shape", "value", "deep"]) 2 0 (by simp) rfl (fun _ _ _ _ _ _ _ us its hl h1 => match us, its, hl, h1 with | [_, _], [_], _, _ => ⟨_, rfl, rfl⟩)
  exact ⟨f, fd, ["shape", "value", "deep"], ds, ok, hm, F.kp, hb, hv⟩
theorem check_all {fS : Addr} {fdS : FuncData} (F : FunB K f fd) (hm : mg "is_body_of" = some (.ref f)) (FS : GFun K mg "is_statement_of" st_is_statement_of fS fdS) (T : Txt K w mg kd pw CP CF) (c_is_count : Cal P w K mg base 2 "is_count" spIsCount []) :
    ∀ d, Cal P w K mg base (2 * d + 2) "is_statement_of" (spIsStm K d) [] ∧ FnOk P w K mg base CX0 (2 * d + 3) f fd ["shape", "value", "deep"] (spIsBody K d)
  | 0 => by
    have b : Binds K fdS ["shape", "value", "deep"] [] := FS.fn.binds fun _ _ _ _ _ _ us hl => match us, hl with | [_, _, _], _ => rfl
    have no : ∀ vs H Q E, ¬ spIsStm K 0 vs H Q E := fun vs H Q E h => by
      obtain ⟨_, _, _, _, _, _, _, h, _⟩ := h
      exact h
    have c : Cal P w K mg base 2 "is_statement_of" (spIsStm K 0) [] := cal_of FS b ⟨fun vs H Q E h => absurd h (no vs H Q E), fun A outer s H args us vs Q E _ _ _ _ h => absurd h (no vs H Q E)⟩
    exact ⟨c, ok_is_body_of F T c⟩
  | d + 1 => by
    have ih := (check_all F hm FS T c_is_count d).2
    have c := ok_is_statement_of FS T c_is_count (cal_body F hm ih) (by omega)
    exact ⟨c, ok_is_body_of F T c⟩
theorem up {x : Str} {k j : Nat} {sp : Sp} {dvs : List V} (c : Cal P w K mg base k x sp dvs) (h : k ≤ j) : Cal P w K mg base j x sp dvs := cal_imp c (fun _ _ _ _ z => z) h
theorem okf_dead_places {d k : Nat} (F : GFun K mg "dead_places" st_dead_places f fd) (c_want_program : Cal P w K mg base 1 "want_program" (spWantProgram CP d) []) (c_flow_of : Cal P w K mg base k "flow_of" (spFlowOf P w CP CF d) []) (c_dead_by_flow : Cal P w K mg base 3 "dead_by_flow" (spDead P w CP CF d) []) (hk : 3 ≤ k) :
    FnOk P w K mg base CX0 (k + 1) f fd ["program"] (spDeadPlaces P w CP CF d) := by
  refine F.fn.ok sc_dead_places (fun vs H Q E h => ?_) (fun cdv A outer s H vs Q E hr h => ?_)
  · obtain ⟨_, _, _, _, rfl, _⟩ := h
    rfl
  obtain ⟨p, sh, bodies, th, rfl, hP, h6, hsh, hok, hd, hth4, hth, q⟩ := h
  refine ⟨_, ((pss_cons (ps_set (i := 1) sc_dead_places.nd rfl (Or.inl rfl) (pe_c c_want_program hr (by omega) (by rfl) (pa_cons (pv 0) pa_nil)))
  (pss_one (ps_ret (pe_c c_dead_by_flow hr (by omega) (by rfl) (pa_cons (pv 1) (pa_cons (pe_c c_flow_of hr (by omega) (by rfl) (pa_cons (pv 1) pa_nil)) pa_nil))))))), ?_⟩
  refine ⟨_, rfl, p, bodies, th, rfl, hP, ?_⟩
  refine ⟨_, rfl, _, rfl, ending d bodies, RR d bodies th, p, sh, bodies, th, rfl, hP, h6, hok, hd, fun H1 x dx am ao ab ae ap af qs s1 R1 => ?_⟩
  have hz : LS.nil.own.length = 0 := rfl
  have hw : LS.nil.wt = 0 := rfl
  have h1 := layProcs_ow (E := ending d bodies) (R := RR d bodies th) (d := d) bodies 0 LS.nil fun b hb => (hok b hb).2
  have h2 := layProcs_wt (E := ending d bodies) (R := RR d bodies th) (d := d) bodies 0 LS.nil fun b hb => (hok b hb).2
  have h3 : (layProcs (ending d bodies) (RR d bodies th) d bodies 0 LS.nil).mv.length ≤ (layProcs (ending d bodies) (RR d bodies th) d bodies 0 LS.nil).wt := by unfold LS.wt; omega
  have hbl : (begins (ending d bodies) (RR d bodies th) d bodies 0 LS.nil).length = bodies.length := begins_len _ _ _
  refine ⟨p, x, dx, am, ao, ab, ae, ap, af, qs, _, _, bodies, th, rfl, hP.keep s1, R1, ?_, begins_lt bodies 0 LS.nil, fun t ht => by rw [hbl]; exact hth t ht, by omega, by omega, hth4, fun H2 r A s2 hr2 hrn hA => ?_⟩
  · rw [hbl, ← hsh]
    exact layProcs_ok bodies 0 LS.nil (fun b hb => (hok b hb).1) fun m hm => nomatch hm
  · exact q H2 r A (same_trans s1 s2) hr2 (same_none s1 hrn) hA
/-! ### all joined -/
theorem law_fn (T : Txt K w mg kd pw CP CF) (hmP : mg "Program" = some (.ref CP)) (hmF : mg "Flow" = some (.ref CF)) {fb : Addr} {fdb : FuncData} (FB : FunB K fb fdb) (hmB : mg "is_body_of" = some (.ref fb))
    {fi fm ft gi : Addr} {fdi fdm fdt gdi : FuncData} (PI : IFun K CP "Program.__init__" st_Program_init fi fdi) (PM : MFun K CP "bodies" "Program.bodies" st_Program_bodies fm fdm) (PT : MFun K CP "threads" "Program.threads" st_Program_threads ft fdt) (FI : IFun K CF "Flow.__init__" st_Flow_init gi gdi)
    {pp gp : Addr} {gdp : FuncData} (PR : PropOf K CF "places" pp gp) (FP : L2.Fun K "places" "Flow.places" st_Flow_places gp gdp)
    {f_is_integer : Addr} {fd_is_integer : FuncData} (F_is_integer : GFun K mg "is_integer" st_is_integer f_is_integer fd_is_integer) {f_is_count : Addr} {fd_is_count : FuncData} (F_is_count : GFun K mg "is_count" st_is_count f_is_count fd_is_count) {f_is_list : Addr} {fd_is_list : FuncData} (F_is_list : GFun K mg "is_list" st_is_list f_is_list fd_is_list) {f_is_statement_of : Addr} {fd_is_statement_of : FuncData} (F_is_statement_of : GFun K mg "is_statement_of" st_is_statement_of f_is_statement_of fd_is_statement_of) {f_bodies_of : Addr} {fd_bodies_of : FuncData} (F_bodies_of : GFun K mg "bodies_of" st_bodies_of f_bodies_of fd_bodies_of) {f_body_size : Addr} {fd_body_size : FuncData} (F_body_size : GFun K mg "body_size" st_body_size f_body_size fd_body_size) {f_is_number_to : Addr} {fd_is_number_to : FuncData} (F_is_number_to : GFun K mg "is_number_to" st_is_number_to f_is_number_to fd_is_number_to) {f_are_bodies : Addr} {fd_are_bodies : FuncData} (F_are_bodies : GFun K mg "are_bodies" st_are_bodies f_are_bodies fd_are_bodies) {f_are_threads : Addr} {fd_are_threads : FuncData} (F_are_threads : GFun K mg "are_threads" st_are_threads f_are_threads fd_are_threads) {f_statements_in : Addr} {fd_statements_in : FuncData} (F_statements_in : GFun K mg "statements_in" st_statements_in f_statements_in fd_statements_in) {f_want_program : Addr} {fd_want_program : FuncData} (F_want_program : GFun K mg "want_program" st_want_program f_want_program fd_want_program) {f_next_place : Addr} {fd_next_place : FuncData} (F_next_place : GFun K mg "next_place" st_next_place f_next_place fd_next_place) {f_lay_move : Addr} {fd_lay_move : FuncData} (F_lay_move : GFun K mg "lay_move" st_lay_move f_lay_move fd_lay_move) {f_lay_body : Addr} {fd_lay_body : FuncData} (F_lay_body : GFun K mg "lay_body" st_lay_body f_lay_body fd_lay_body) {f_lay_statement : Addr} {fd_lay_statement : FuncData} (F_lay_statement : GFun K mg "lay_statement" st_lay_statement f_lay_statement fd_lay_statement) {f_lay_hold : Addr} {fd_lay_hold : FuncData} (F_lay_hold : GFun K mg "lay_hold" st_lay_hold f_lay_hold fd_lay_hold) {f_flow_of : Addr} {fd_flow_of : FuncData} (F_flow_of : GFun K mg "flow_of" st_flow_of f_flow_of fd_flow_of) {f_dead_by_flow : Addr} {fd_dead_by_flow : FuncData} (F_dead_by_flow : GFun K mg "dead_by_flow" st_dead_by_flow f_dead_by_flow fd_dead_by_flow) {f_dead_places : Addr} {fd_dead_places : FuncData} (F_dead_places : GFun K mg "dead_places" st_dead_places f_dead_places fd_dead_places) {f_law_pot : Addr} {fd_law_pot : FuncData} (F_law_pot : GFun K mg "_law_pot" st_law_pot f_law_pot fd_law_pot) {f_law_draw : Addr} {fd_law_draw : FuncData} (F_law_draw : GFun K mg "_law_draw" st_law_draw f_law_draw fd_law_draw) {f_law_pick : Addr} {fd_law_pick : FuncData} (F_law_pick : GFun K mg "_law_pick" st_law_pick f_law_pick fd_law_pick) {f_law_body : Addr} {fd_law_body : FuncData} (F_law_body : GFun K mg "_law_body" st_law_body f_law_body fd_law_body) {f_law_statement : Addr} {fd_law_statement : FuncData} (F_law_statement : GFun K mg "_law_statement" st_law_statement f_law_statement fd_law_statement) {f_law_drawn : Addr} {fd_law_drawn : FuncData} (F_law_drawn : GFun K mg "_law_drawn" st_law_drawn f_law_drawn fd_law_drawn) {f_law_made : Addr} {fd_law_made : FuncData} (F_law_made : GFun K mg "_law_made" st_law_made f_law_made fd_law_made) {f_law_next : Addr} {fd_law_next : FuncData} (F_law_next : GFun K mg "_law_next" st_law_next f_law_next fd_law_next) {f_law_lay_body : Addr} {fd_law_lay_body : FuncData} (F_law_lay_body : GFun K mg "_law_lay_body" st_law_lay_body f_law_lay_body fd_law_lay_body) {f_law_lay : Addr} {fd_law_lay : FuncData} (F_law_lay : GFun K mg "_law_lay" st_law_lay f_law_lay fd_law_lay) {f_law_flow : Addr} {fd_law_flow : FuncData} (F_law_flow : GFun K mg "_law_flow" st_law_flow f_law_flow fd_law_flow) {f_law_can_end : Addr} {fd_law_can_end : FuncData} (F_law_can_end : GFun K mg "_law_can_end" st_law_can_end f_law_can_end fd_law_can_end) {f_law_ending : Addr} {fd_law_ending : FuncData} (F_law_ending : GFun K mg "_law_ending" st_law_ending f_law_ending fd_law_ending) {f_law_walk : Addr} {fd_law_walk : FuncData} (F_law_walk : GFun K mg "_law_walk" st_law_walk f_law_walk fd_law_walk) {f_law_alive : Addr} {fd_law_alive : FuncData} (F_law_alive : GFun K mg "_law_alive" st_law_alive f_law_alive fd_law_alive) {f_law_right : Addr} {fd_law_right : FuncData} (F_law_right : GFun K mg "_law_right" st_law_right f_law_right fd_law_right) {f_law : Addr} {fd_law : FuncData} (F_law : GFun K mg "law" st_law f_law fd_law) :
    FnOk P w K mg base CX0 17 f_law fd_law ["_law_script"] (spLaw K) := by
  have c_is_integer := ok_is_integer (P := P) (base := base) F_is_integer T
  have c_is_count := ok_is_count F_is_count c_is_integer
  have c_is_list := ok_is_list (P := P) (base := base) F_is_list T
  have c_is_number_to := ok_is_number_to F_is_number_to c_is_count
  have CH := check_all FB hmB F_is_statement_of T c_is_count 3
  have c6 := cal_body6 FB hmB CH.2
  have c_are_bodies := ok_are_bodies F_are_bodies T c_is_list c6 (by omega)
  have c_are_threads := ok_are_threads F_are_threads T c_is_list c_is_number_to
  have c_bodies_of : ∀ d, Cal P w K mg base 1 "bodies_of" (spBodiesOf d) [] := fun d => ok_bodies_of F_bodies_of T
  have c_body_size := body_size_all F_body_size T c_bodies_of 4
  have c_statements_in := ok_statements_in (d := 3) F_statements_in T c_body_size
  have k_Program := ok_prog_init PI hmP T c_is_number_to c_are_bodies c_are_threads (up c_statements_in (by omega)) (by omega)
  have m_bodies := ok_bodies (P := P) (base := base) (d := 3) PM T
  have m_threads := ok_threads (P := P) (base := base) (d := 3) PT T
  have c_want_program := ok_want_program (P := P) (base := base) (d := 3) F_want_program T
  have c_next_place := ok_next_place (P := P) (base := base) F_next_place T
  have c_lay_move := ok_lay_move (P := P) (base := base) F_lay_move T
  have LA := lay_all F_lay_statement F_lay_body F_lay_hold T c_next_place c_lay_move 3
  have k_Flow := ok_flow_init FI hmF T c_want_program m_bodies c_next_place LA.2 (by omega)
  have c_flow_of := ok_flow_of F_flow_of k_Flow
  have okP := ok_places (P := P) (base := base) (mg := mg) FP T
  have bP : Binds K gdp ["self"] [] := FP.binds fun _ _ _ _ _ _ us hl => match us, hl with | [_], _ => rfl
  have c_dead_by_flow := ok_dead_by_flow (k := 2) (dsP := []) F_dead_by_flow T m_threads PR okP bP (by omega)
  have okD := okf_dead_places F_dead_places c_want_program c_flow_of c_dead_by_flow (by omega)
  have c_dead_places := ok_dead_places F_dead_places c_want_program c_flow_of c_dead_by_flow (by omega)
  have c_law_draw := ok_law_draw (P := P) (base := base) F_law_draw T
  have c_law_pick := ok_law_pick F_law_pick T c_law_draw
  have LB := law_all F_law_statement F_law_body T c_law_draw c_law_pick 2
  have c_law_drawn := ok_law_drawn F_law_drawn T c_law_draw LB.2 (by omega)
  have c_law_made := ok_law_made F_law_made T k_Program
  have c_law_next := ok_law_next (P := P) (base := base) F_law_next T
  have LL := law_lay_all F_law_lay F_law_lay_body T c_law_next 3
  have c_law_flow := ok_law_flow F_law_flow T c_law_next LL.2 (by omega)
  have CE := fun d => can_all (P := P) (base := base) F_law_can_end T d
  have c_law_ending := ok_law_ending F_law_ending T (CE 3).1 (by omega)
  have c_law_walk := walk_all F_law_walk T (fun d => (CE d).2) 3
  have c_law_alive := ok_law_alive F_law_alive T c_law_walk (by omega)
  have kb := kbinds_dead F_dead_places.fn (fun _ _ _ _ _ _ _ => rfl) (fun _ _ _ _ _ _ _ => rfl)
  have c_law_right := ok_law_right (k := 15) F_law_right T c_law_draw (up c_law_drawn (by omega)) (up c_law_made (by omega)) (up c_law_flow (by omega)) (up c_law_ending (by omega)) (up c_law_alive (by omega)) (up c_dead_places (by omega)) okD F_dead_places.mgf F_dead_places.fn.kp kb (by omega)
  have c_law_pot := ok_law_pot (P := P) (base := base) F_law_pot T
  exact ok_law F_law.fn c_law_right c_law_pot (by omega)
end
end Dp
namespace Dp
open PySem L2
open C8 (Cal Met Mak InsC)
section
variable {K : PySem.W.Frag} {h : Heap} {mg : Str → Option Value} {w : World} {Goal : Prop}
theorem w_g {x : Str} {st : Stmt} {f : Addr} {od an : Option Addr} {sl : Array (Option Value)} {oc kV dc pm cd ct : Value} (KX : K.In h) (G : h.Ns mainGlobals mg) (a : PySem.W.nsIn K mainGlobals x = some (some (.ref f))) (l : K.lookup f = some ⟨oc, od, .func (PySem.W.fnOf x x (defArgs st) (defBody st) (defScope st) .none kV dc pm an cd ct), sl⟩) (c : PySem.W.codeIn K cd x = true) (k : PySem.W.keepIn K (.ref f) = true)
    (go : ∀ (f : Addr) (fd : FuncData), GFun K mg x st f fd → Goal) : Goal := go _ _ ⟨fun_mk l c k, PySem.W.mg_of KX G a⟩
theorem w_body {f Td : Addr} {dT : Option Addr} {sT : Array (Option Value)} {nT : Nat} {t6 : Tok} {od an : Option Addr} {sl : Array (Option Value)} {oc kV dc pm cd ct : Value} (KX : K.In h) (G : h.Ns mainGlobals mg) (a : PySem.W.nsIn K mainGlobals "is_body_of" = some (some (.ref f))) (l : K.lookup f = some ⟨oc, od, .func (PySem.W.fnOf "is_body_of" "is_body_of" (defArgs st_is_body_of) (defBody st_is_body_of) (defScope st_is_body_of) (.ref Td) kV dc pm an cd ct), sl⟩)
    (lT : K.lookup Td = some ⟨.type "tuple", dT, .seq #[.int 6 t6] nT, sT⟩) (c : PySem.W.codeIn K cd "is_body_of" = true) (k : PySem.W.keepIn K (.ref f) = true)
    (go : ∀ (f : Addr) (fd : FuncData), FunB K f fd → mg "is_body_of" = some (.ref f) → Goal) : Goal :=
  go _ _ ⟨⟨oc, od, _, kV, dc, pm, an, cd, ct, sl, rfl, l, c, .inr ⟨by simp, Td, _, [.int 6 t6], nT, rfl, lT, rfl, .cons ⟨_, rfl⟩ .nil⟩, .inl rfl⟩, k⟩ (PySem.W.mg_of KX G a)
theorem w_met {cls m qual : Str} {st : Stmt} {C f : Addr} {od an : Option Addr} {sl : Array (Option Value)} {oc kV dc pm cd ct : Value} (KX : K.In h) (G : h.Ns mainGlobals mg) (aC : PySem.W.nsIn K mainGlobals cls = some (some (.ref C))) (a : PySem.W.findIn K (.ref C) m = some (some (.ref f))) (i : PySem.W.isFn K (.ref f) = true) (l : K.lookup f = some ⟨oc, od, .func (PySem.W.fnOf m qual (defArgs st) (defBody st) (defScope st) .none kV dc pm an cd ct), sl⟩)
    (c : PySem.W.codeIn K cd qual = true) (k : PySem.W.keepIn K (.ref f) = true) (go : ∀ (C f : Addr) (fd : FuncData), mg cls = some (.ref C) → MFun K C m qual st f fd → Goal) : Goal := go _ _ _ (PySem.W.mg_of KX G aC) ⟨fun_mk l c k, ⟨a, i, k⟩⟩
theorem w_init {cls qual : Str} {st : Stmt} {C f : Addr} {od an : Option Addr} {sl : Array (Option Value)} {oc kV dc pm cd ct : Value} (KX : K.In h) (G : h.Ns mainGlobals mg) (aC : PySem.W.nsIn K mainGlobals cls = some (some (.ref C))) (a : PySem.W.findIn K (.ref C) "__init__" = some (some (.ref f))) (i : PySem.W.isFn K (.ref f) = true) (l : K.lookup f = some ⟨oc, od, .func (PySem.W.fnOf "__init__" qual (defArgs st) (defBody st) (defScope st) .none kV dc pm an cd ct), sl⟩)
    (c : PySem.W.codeIn K cd qual = true) (k : PySem.W.keepIn K (.ref f) = true) (mk : PySem.W.makesIn K C = true) (kc : PySem.W.keepIn K (.ref C) = true) (go : ∀ (C f : Addr) (fd : FuncData), mg cls = some (.ref C) → IFun K C qual st f fd → Goal) : Goal := go _ _ _ (PySem.W.mg_of KX G aC) ⟨fun_mk l c k, ⟨mk, a, i, kc⟩⟩
theorem w_prop {cls m qual : Str} {st : Stmt} {C p f : Addr} {rest : List Value} {od an : Option Addr} {sl : Array (Option Value)} {oc kV dc pm cd ct : Value} (KX : K.In h) (G : h.Ns mainGlobals mg) (aC : PySem.W.nsIn K mainGlobals cls = some (some (.ref C))) (a : PySem.W.findIn K (.ref C) m = some (some (.ref p))) (sg : PySem.W.specialIn K (.ref p) "__get__" = some (some (.builtin "property.__get__")))
    (tk : PySem.W.takesIn K (.ref p) = some true) (rc : PySem.W.recIn K p "property" = some (.ref f :: rest)) (l : K.lookup f = some ⟨oc, od, .func (PySem.W.fnOf m qual (defArgs st) (defBody st) (defScope st) .none kV dc pm an cd ct), sl⟩) (c : PySem.W.codeIn K cd qual = true) (k : PySem.W.keepIn K (.ref f) = true)
    (go : ∀ (C p f : Addr) (fd : FuncData), mg cls = some (.ref C) → PropOf K C m p f → L2.Fun K m qual st f fd → Goal) : Goal := go _ _ _ _ (PySem.W.mg_of KX G aC) ⟨a, sg, tk, ⟨rest, rc⟩⟩ (fun_mk l c k)
theorem sqt_of {t : Addr} {d : Option Addr} {its : Array Value} {n : Nat} {s : Array (Option Value)} {xs : List V} (l : K.lookup t = some ⟨.type "tuple", d, .seq its n, s⟩) (hz : its.size ≤ sizeLine) (v : Vals xs its.toList) : ∀ H, SqT K H t xs :=
  fun H => .inr ⟨_, its, n, l, rfl, rfl, hz, v⟩
theorem me_of {C : Addr} : PySem.W.kitOne K (.ref C) (.ref C) = some true := by
  unfold PySem.W.kitOne
  rw [if_pos]
  simp
theorem txt_mk {tm0 : Tok} {tm1 : Tok} {tm2 : Tok} {tm3 : Tok} {tm4 : Tok} {tm5 : Tok} {tm6 : Tok} {tm7 : Tok} {tm8 : Tok} {kd : Addr} {pw : Addr} {CP : Addr} {CF : Addr} {dW : Option Addr} {nW : Nat} {sW : Array (Option Value)} {tw0 : Tok} {tw1 : Tok} {tw2 : Tok} {tw3 : Tok} {tw4 : Tok} {tw5 : Tok} {es : Array DictEntry} {nK : Nat} {t0 : Addr} {d0 : Option Addr} {n0 : Nat} {s0 : Array (Option Value)} {ti0 : Tok} {t1 : Addr} {d1 : Option Addr} {n1 : Nat} {s1 : Array (Option Value)} {ti1 : Tok} {tb1 : Tok} {t2 : Addr} {d2 : Option Addr} {n2 : Nat} {s2 : Array (Option Value)} {ti2 : Tok} {tb2 : Tok} {t3 : Addr} {d3 : Option Addr} {n3 : Nat} {s3 : Array (Option Value)} {ti3 : Tok} {tb3 : Tok} {t4 : Addr} {d4 : Option Addr} {n4 : Nat} {s4 : Array (Option Value)} {ti4 : Tok} {tb4 : Tok} {t5 : Addr} {d5 : Option Addr} {n5 : Nat} {s5 : Array (Option Value)} {ti5 : Tok} {tb5 : Tok} {t6 : Addr} {d6 : Option Addr} {n6 : Nat} {s6 : Array (Option Value)} {ti6 : Tok} {tb6 : Tok} {t7 : Addr} {d7 : Option Addr} {n7 : Nat} {s7 : Array (Option Value)} {ti7 : Tok} {tb7 : Tok} {t8 : Addr} {d8 : Option Addr} {n8 : Nat} {s8 : Array (Option Value)} {ti8 : Tok} {t9 : Addr} {d9 : Option Addr} {n9 : Nat} {s9 : Array (Option Value)} {ti9 : Tok} {tb9 : Tok} {t10 : Addr} {d10 : Option Addr} {n10 : Nat} {s10 : Array (Option Value)} {ti10 : Tok} (KX : K.In h) (G : h.Ns mainGlobals mg)
    (z0 : PySem.W.nsIn K mainGlobals "len" = some none)
    (z1 : PySem.W.nsIn K mainGlobals "isinstance" = some none)
    (z2 : PySem.W.nsIn K mainGlobals "abs" = some none)
    (z3 : PySem.W.nsIn K mainGlobals "max" = some none)
    (z4 : PySem.W.nsIn K mainGlobals "divmod" = some none)
    (z5 : PySem.W.nsIn K mainGlobals "all" = some none)
    (z6 : PySem.W.nsIn K mainGlobals "sum" = some none)
    (z7 : PySem.W.nsIn K mainGlobals "int" = some none)
    (z8 : PySem.W.nsIn K mainGlobals "bool" = some none)
    (z9 : PySem.W.nsIn K mainGlobals "str" = some none)
    (z10 : PySem.W.nsIn K mainGlobals "list" = some none)
    (z11 : PySem.W.nsIn K mainGlobals "tuple" = some none)
    (z12 : PySem.W.nsIn K mainGlobals "range" = some none)
    (z13 : PySem.W.nsIn K mainGlobals "enumerate" = some none)
    (m0 : PySem.W.nsIn K mainGlobals "MOST_DEEP" = some (some (.int 6 tm0)))
    (m1 : PySem.W.nsIn K mainGlobals "MOST_LABEL" = some (some (.int 9 tm1)))
    (m2 : PySem.W.nsIn K mainGlobals "MOST_LOCKS" = some (some (.int 4 tm2)))
    (m3 : PySem.W.nsIn K mainGlobals "MOST_CELLS" = some (some (.int 4 tm3)))
    (m4 : PySem.W.nsIn K mainGlobals "MOST_MODES" = some (some (.int 4 tm4)))
    (m5 : PySem.W.nsIn K mainGlobals "MOST_PROCEDURES" = some (some (.int 6 tm5)))
    (m6 : PySem.W.nsIn K mainGlobals "MOST_THREADS" = some (some (.int 4 tm6)))
    (m7 : PySem.W.nsIn K mainGlobals "MOST_STATEMENTS" = some (some (.int 60 tm7)))
    (m8 : PySem.W.nsIn K mainGlobals "MOST_PLACES" = some (some (.int 160 tm8)))
    (akd : PySem.W.nsIn K mainGlobals "KINDS" = some (some (.ref kd)))
    (apw : PySem.W.nsIn K mainGlobals "PLAIN_WORDS" = some (some (.ref pw)))
    (aCP : PySem.W.nsIn K mainGlobals "Program" = some (some (.ref CP)))
    (aCF : PySem.W.nsIn K mainGlobals "Flow" = some (some (.ref CF)))
    (lW : K.lookup pw = some ⟨.type "tuple", dW, .seq #[.str "touch" tw0, .str "write" tw1, .str "mark" tw2, .str "claim" tw3, .str "set" tw4, .str "call" tw5] nW, sW⟩)
    (lK : K.lookup kd = some ⟨.type "dict", none, .dict es nK, #[]⟩)
    (lit : PySem.W.KeysLit w.params es.toList)
    (low : (kd == sysModules) = false)
    (e0 : PySem.W.nsIn K kd "skip" = some (some (.ref t0)))
    (l0 : K.lookup t0 = some ⟨.type "tuple", d0, .seq #[.none, .int 0 ti0] n0, s0⟩)
    (e1 : PySem.W.nsIn K kd "touch" = some (some (.ref t1)))
    (l1 : K.lookup t1 = some ⟨.type "tuple", d1, .seq #[.int 1 tb1, .int 0 ti1] n1, s1⟩)
    (e2 : PySem.W.nsIn K kd "write" = some (some (.ref t2)))
    (l2 : K.lookup t2 = some ⟨.type "tuple", d2, .seq #[.int 1 tb2, .int 0 ti2] n2, s2⟩)
    (e3 : PySem.W.nsIn K kd "mark" = some (some (.ref t3)))
    (l3 : K.lookup t3 = some ⟨.type "tuple", d3, .seq #[.int 4 tb3, .int 0 ti3] n3, s3⟩)
    (e4 : PySem.W.nsIn K kd "set" = some (some (.ref t4)))
    (l4 : K.lookup t4 = some ⟨.type "tuple", d4, .seq #[.int 2 tb4, .int 0 ti4] n4, s4⟩)
    (e5 : PySem.W.nsIn K kd "claim" = some (some (.ref t5)))
    (l5 : K.lookup t5 = some ⟨.type "tuple", d5, .seq #[.int 2 tb5, .int 0 ti5] n5, s5⟩)
    (e6 : PySem.W.nsIn K kd "call" = some (some (.ref t6)))
    (l6 : K.lookup t6 = some ⟨.type "tuple", d6, .seq #[.int 3 tb6, .int 0 ti6] n6, s6⟩)
    (e7 : PySem.W.nsIn K kd "hold" = some (some (.ref t7)))
    (l7 : K.lookup t7 = some ⟨.type "tuple", d7, .seq #[.int 0 tb7, .int 1 ti7] n7, s7⟩)
    (e8 : PySem.W.nsIn K kd "either" = some (some (.ref t8)))
    (l8 : K.lookup t8 = some ⟨.type "tuple", d8, .seq #[.none, .int 2 ti8] n8, s8⟩)
    (e9 : PySem.W.nsIn K kd "when" = some (some (.ref t9)))
    (l9 : K.lookup t9 = some ⟨.type "tuple", d9, .seq #[.int 2 tb9, .int 2 ti9] n9, s9⟩)
    (e10 : PySem.W.nsIn K kd "loop" = some (some (.ref t10)))
    (l10 : K.lookup t10 = some ⟨.type "tuple", d10, .seq #[.none, .int 1 ti10] n10, s10⟩)
    (pgCP : PySem.W.plainGet K CP Str.empty = true)
    (hdCP : PySem.W.hasDictIn K CP = true)
    (poCP : PySem.W.plainOver K CP = true)
    (saCP : PySem.W.findIn K (.ref CP) "__setattr__" = some (some (.builtin "object.__setattr__")))
    (pgCF : PySem.W.plainGet K CF Str.empty = true)
    (hdCF : PySem.W.hasDictIn K CF = true)
    (poCF : PySem.W.plainOver K CF = true)
    (saCF : PySem.W.findIn K (.ref CF) "__setattr__" = some (some (.builtin "object.__setattr__")))
    (hac : PySem.W.findIn K (.ref CP) "__class__" = some (some (.builtin "object.__class__")))
    (hnc : PySem.W.specialIn K (.builtin "object.__class__") "__get__" = some (some (.builtin "getset_descriptor.__get__")))
    (htc : PySem.W.takesIn K (.builtin "object.__class__") = some true)
    (hmc : PySem.W.mroIn K CP (.type "object") = some true)
    (p0 : PySem.W.findIn K (.ref CP) "own_locks" = some none)
    (p1 : PySem.W.findIn K (.ref CP) "own_cells" = some none)
    (p2 : PySem.W.findIn K (.ref CP) "own_modes" = some none)
    (p3 : PySem.W.findIn K (.ref CP) "own_bodies" = some none)
    (p4 : PySem.W.findIn K (.ref CP) "own_threads" = some none)
    (q0 : PySem.W.findIn K (.ref CF) "own_moves" = some none)
    (q1 : PySem.W.findIn K (.ref CF) "own_procedures" = some none)
    (q2 : PySem.W.findIn K (.ref CF) "own_begins" = some none)
    (q3 : PySem.W.findIn K (.ref CF) "own_ends" = some none)
    (q4 : PySem.W.findIn K (.ref CF) "own_paths" = some none)
    (q5 : PySem.W.findIn K (.ref CF) "own_from" = some none) : Txt K w mg kd pw CP CF where
  n_len := PySem.W.mg_none_of KX G z0
  n_isinstance := PySem.W.mg_none_of KX G z1
  n_abs := PySem.W.mg_none_of KX G z2
  n_max := PySem.W.mg_none_of KX G z3
  n_divmod := PySem.W.mg_none_of KX G z4
  n_all := PySem.W.mg_none_of KX G z5
  n_sum := PySem.W.mg_none_of KX G z6
  n_int := PySem.W.mg_none_of KX G z7
  n_bool := PySem.W.mg_none_of KX G z8
  n_str := PySem.W.mg_none_of KX G z9
  n_list := PySem.W.mg_none_of KX G z10
  n_tuple := PySem.W.mg_none_of KX G z11
  n_range := PySem.W.mg_none_of KX G z12
  n_enumerate := PySem.W.mg_none_of KX G z13
  c_MOST_DEEP := ⟨_, PySem.W.mg_of KX G m0, ⟨_, rfl⟩⟩
  c_MOST_LABEL := ⟨_, PySem.W.mg_of KX G m1, ⟨_, rfl⟩⟩
  c_MOST_LOCKS := ⟨_, PySem.W.mg_of KX G m2, ⟨_, rfl⟩⟩
  c_MOST_CELLS := ⟨_, PySem.W.mg_of KX G m3, ⟨_, rfl⟩⟩
  c_MOST_MODES := ⟨_, PySem.W.mg_of KX G m4, ⟨_, rfl⟩⟩
  c_MOST_PROCEDURES := ⟨_, PySem.W.mg_of KX G m5, ⟨_, rfl⟩⟩
  c_MOST_THREADS := ⟨_, PySem.W.mg_of KX G m6, ⟨_, rfl⟩⟩
  c_MOST_STATEMENTS := ⟨_, PySem.W.mg_of KX G m7, ⟨_, rfl⟩⟩
  c_MOST_PLACES := ⟨_, PySem.W.mg_of KX G m8, ⟨_, rfl⟩⟩
  c_KINDS := ⟨_, PySem.W.mg_of KX G akd, rfl⟩
  c_PLAIN_WORDS := ⟨_, PySem.W.mg_of KX G apw, rfl⟩
  c_Program := ⟨_, PySem.W.mg_of KX G aCP, rfl⟩
  c_Flow := ⟨_, PySem.W.mg_of KX G aCF, rfl⟩
  words := sqt_of lW (by show 6 ≤ sizeLine; decide) (.cons ⟨_, rfl⟩ (.cons ⟨_, rfl⟩ (.cons ⟨_, rfl⟩ (.cons ⟨_, rfl⟩ (.cons ⟨_, rfl⟩ (.cons ⟨_, rfl⟩ (.nil)))))))
  kinds := ⟨es, nK, lK, lit, low⟩
  kind := fun x b m hm => by
    simp only [List.mem_cons, List.not_mem_nil, or_false, Prod.mk.injEq] at hm
    rcases hm with ⟨rfl, rfl, rfl⟩ | ⟨rfl, rfl, rfl⟩ | ⟨rfl, rfl, rfl⟩ | ⟨rfl, rfl, rfl⟩ | ⟨rfl, rfl, rfl⟩ | ⟨rfl, rfl, rfl⟩ | ⟨rfl, rfl, rfl⟩ | ⟨rfl, rfl, rfl⟩ | ⟨rfl, rfl, rfl⟩ | ⟨rfl, rfl, rfl⟩ | ⟨rfl, rfl, rfl⟩
    · exact ⟨t0, ⟨_, e0, rfl⟩, sqt_of l0 (by show 2 ≤ sizeLine; decide) (.cons rfl (.cons ⟨_, rfl⟩ .nil))⟩
    · exact ⟨t1, ⟨_, e1, rfl⟩, sqt_of l1 (by show 2 ≤ sizeLine; decide) (.cons ⟨_, rfl⟩ (.cons ⟨_, rfl⟩ .nil))⟩
    · exact ⟨t2, ⟨_, e2, rfl⟩, sqt_of l2 (by show 2 ≤ sizeLine; decide) (.cons ⟨_, rfl⟩ (.cons ⟨_, rfl⟩ .nil))⟩
    · exact ⟨t3, ⟨_, e3, rfl⟩, sqt_of l3 (by show 2 ≤ sizeLine; decide) (.cons ⟨_, rfl⟩ (.cons ⟨_, rfl⟩ .nil))⟩
    · exact ⟨t4, ⟨_, e4, rfl⟩, sqt_of l4 (by show 2 ≤ sizeLine; decide) (.cons ⟨_, rfl⟩ (.cons ⟨_, rfl⟩ .nil))⟩
    · exact ⟨t5, ⟨_, e5, rfl⟩, sqt_of l5 (by show 2 ≤ sizeLine; decide) (.cons ⟨_, rfl⟩ (.cons ⟨_, rfl⟩ .nil))⟩
    · exact ⟨t6, ⟨_, e6, rfl⟩, sqt_of l6 (by show 2 ≤ sizeLine; decide) (.cons ⟨_, rfl⟩ (.cons ⟨_, rfl⟩ .nil))⟩
    · exact ⟨t7, ⟨_, e7, rfl⟩, sqt_of l7 (by show 2 ≤ sizeLine; decide) (.cons ⟨_, rfl⟩ (.cons ⟨_, rfl⟩ .nil))⟩
    · exact ⟨t8, ⟨_, e8, rfl⟩, sqt_of l8 (by show 2 ≤ sizeLine; decide) (.cons rfl (.cons ⟨_, rfl⟩ .nil))⟩
    · exact ⟨t9, ⟨_, e9, rfl⟩, sqt_of l9 (by show 2 ≤ sizeLine; decide) (.cons ⟨_, rfl⟩ (.cons ⟨_, rfl⟩ .nil))⟩
    · exact ⟨t10, ⟨_, e10, rfl⟩, sqt_of l10 (by show 2 ≤ sizeLine; decide) (.cons rfl (.cons ⟨_, rfl⟩ .nil))⟩
  isP := ⟨⟨pgCP, hdCP, poCP, saCP⟩, hac, hnc, htc, hmc, me_of⟩
  isF := ⟨pgCF, hdCF, poCF, saCF⟩
  nP := fun x hx => by
    simp only [List.mem_cons, List.not_mem_nil, or_false] at hx
    rcases hx with rfl | rfl | rfl | rfl | rfl
    · exact p0
    · exact p1
    · exact p2
    · exact p3
    · exact p4
  nF := fun x hx => by
    simp only [List.mem_cons, List.not_mem_nil, or_false] at hx
    rcases hx with rfl | rfl | rfl | rfl | rfl | rfl
    · exact q0
    · exact q1
    · exact q2
    · exact q3
    · exact q4
    · exact q5
theorem w_txt {tm0 : Tok} {tm1 : Tok} {tm2 : Tok} {tm3 : Tok} {tm4 : Tok} {tm5 : Tok} {tm6 : Tok} {tm7 : Tok} {tm8 : Tok} {kd : Addr} {pw : Addr} {CP : Addr} {CF : Addr} {dW : Option Addr} {nW : Nat} {sW : Array (Option Value)} {tw0 : Tok} {tw1 : Tok} {tw2 : Tok} {tw3 : Tok} {tw4 : Tok} {tw5 : Tok} {es : Array DictEntry} {nK : Nat} {t0 : Addr} {d0 : Option Addr} {n0 : Nat} {s0 : Array (Option Value)} {ti0 : Tok} {t1 : Addr} {d1 : Option Addr} {n1 : Nat} {s1 : Array (Option Value)} {ti1 : Tok} {tb1 : Tok} {t2 : Addr} {d2 : Option Addr} {n2 : Nat} {s2 : Array (Option Value)} {ti2 : Tok} {tb2 : Tok} {t3 : Addr} {d3 : Option Addr} {n3 : Nat} {s3 : Array (Option Value)} {ti3 : Tok} {tb3 : Tok} {t4 : Addr} {d4 : Option Addr} {n4 : Nat} {s4 : Array (Option Value)} {ti4 : Tok} {tb4 : Tok} {t5 : Addr} {d5 : Option Addr} {n5 : Nat} {s5 : Array (Option Value)} {ti5 : Tok} {tb5 : Tok} {t6 : Addr} {d6 : Option Addr} {n6 : Nat} {s6 : Array (Option Value)} {ti6 : Tok} {tb6 : Tok} {t7 : Addr} {d7 : Option Addr} {n7 : Nat} {s7 : Array (Option Value)} {ti7 : Tok} {tb7 : Tok} {t8 : Addr} {d8 : Option Addr} {n8 : Nat} {s8 : Array (Option Value)} {ti8 : Tok} {t9 : Addr} {d9 : Option Addr} {n9 : Nat} {s9 : Array (Option Value)} {ti9 : Tok} {tb9 : Tok} {t10 : Addr} {d10 : Option Addr} {n10 : Nat} {s10 : Array (Option Value)} {ti10 : Tok} (KX : K.In h) (G : h.Ns mainGlobals mg)
    (z0 : PySem.W.nsIn K mainGlobals "len" = some none)
    (z1 : PySem.W.nsIn K mainGlobals "isinstance" = some none)
    (z2 : PySem.W.nsIn K mainGlobals "abs" = some none)
    (z3 : PySem.W.nsIn K mainGlobals "max" = some none)
    (z4 : PySem.W.nsIn K mainGlobals "divmod" = some none)
    (z5 : PySem.W.nsIn K mainGlobals "all" = some none)
    (z6 : PySem.W.nsIn K mainGlobals "sum" = some none)
    (z7 : PySem.W.nsIn K mainGlobals "int" = some none)
    (z8 : PySem.W.nsIn K mainGlobals "bool" = some none)
    (z9 : PySem.W.nsIn K mainGlobals "str" = some none)
    (z10 : PySem.W.nsIn K mainGlobals "list" = some none)
    (z11 : PySem.W.nsIn K mainGlobals "tuple" = some none)
    (z12 : PySem.W.nsIn K mainGlobals "range" = some none)
    (z13 : PySem.W.nsIn K mainGlobals "enumerate" = some none)
    (m0 : PySem.W.nsIn K mainGlobals "MOST_DEEP" = some (some (.int 6 tm0)))
    (m1 : PySem.W.nsIn K mainGlobals "MOST_LABEL" = some (some (.int 9 tm1)))
    (m2 : PySem.W.nsIn K mainGlobals "MOST_LOCKS" = some (some (.int 4 tm2)))
    (m3 : PySem.W.nsIn K mainGlobals "MOST_CELLS" = some (some (.int 4 tm3)))
    (m4 : PySem.W.nsIn K mainGlobals "MOST_MODES" = some (some (.int 4 tm4)))
    (m5 : PySem.W.nsIn K mainGlobals "MOST_PROCEDURES" = some (some (.int 6 tm5)))
    (m6 : PySem.W.nsIn K mainGlobals "MOST_THREADS" = some (some (.int 4 tm6)))
    (m7 : PySem.W.nsIn K mainGlobals "MOST_STATEMENTS" = some (some (.int 60 tm7)))
    (m8 : PySem.W.nsIn K mainGlobals "MOST_PLACES" = some (some (.int 160 tm8)))
    (akd : PySem.W.nsIn K mainGlobals "KINDS" = some (some (.ref kd)))
    (apw : PySem.W.nsIn K mainGlobals "PLAIN_WORDS" = some (some (.ref pw)))
    (aCP : PySem.W.nsIn K mainGlobals "Program" = some (some (.ref CP)))
    (aCF : PySem.W.nsIn K mainGlobals "Flow" = some (some (.ref CF)))
    (lW : K.lookup pw = some ⟨.type "tuple", dW, .seq #[.str "touch" tw0, .str "write" tw1, .str "mark" tw2, .str "claim" tw3, .str "set" tw4, .str "call" tw5] nW, sW⟩)
    (lK : K.lookup kd = some ⟨.type "dict", none, .dict es nK, #[]⟩)
    (lit : PySem.W.KeysLit w.params es.toList)
    (low : (kd == sysModules) = false)
    (e0 : PySem.W.nsIn K kd "skip" = some (some (.ref t0)))
    (l0 : K.lookup t0 = some ⟨.type "tuple", d0, .seq #[.none, .int 0 ti0] n0, s0⟩)
    (e1 : PySem.W.nsIn K kd "touch" = some (some (.ref t1)))
    (l1 : K.lookup t1 = some ⟨.type "tuple", d1, .seq #[.int 1 tb1, .int 0 ti1] n1, s1⟩)
    (e2 : PySem.W.nsIn K kd "write" = some (some (.ref t2)))
    (l2 : K.lookup t2 = some ⟨.type "tuple", d2, .seq #[.int 1 tb2, .int 0 ti2] n2, s2⟩)
    (e3 : PySem.W.nsIn K kd "mark" = some (some (.ref t3)))
    (l3 : K.lookup t3 = some ⟨.type "tuple", d3, .seq #[.int 4 tb3, .int 0 ti3] n3, s3⟩)
    (e4 : PySem.W.nsIn K kd "set" = some (some (.ref t4)))
    (l4 : K.lookup t4 = some ⟨.type "tuple", d4, .seq #[.int 2 tb4, .int 0 ti4] n4, s4⟩)
    (e5 : PySem.W.nsIn K kd "claim" = some (some (.ref t5)))
    (l5 : K.lookup t5 = some ⟨.type "tuple", d5, .seq #[.int 2 tb5, .int 0 ti5] n5, s5⟩)
    (e6 : PySem.W.nsIn K kd "call" = some (some (.ref t6)))
    (l6 : K.lookup t6 = some ⟨.type "tuple", d6, .seq #[.int 3 tb6, .int 0 ti6] n6, s6⟩)
    (e7 : PySem.W.nsIn K kd "hold" = some (some (.ref t7)))
    (l7 : K.lookup t7 = some ⟨.type "tuple", d7, .seq #[.int 0 tb7, .int 1 ti7] n7, s7⟩)
    (e8 : PySem.W.nsIn K kd "either" = some (some (.ref t8)))
    (l8 : K.lookup t8 = some ⟨.type "tuple", d8, .seq #[.none, .int 2 ti8] n8, s8⟩)
    (e9 : PySem.W.nsIn K kd "when" = some (some (.ref t9)))
    (l9 : K.lookup t9 = some ⟨.type "tuple", d9, .seq #[.int 2 tb9, .int 2 ti9] n9, s9⟩)
    (e10 : PySem.W.nsIn K kd "loop" = some (some (.ref t10)))
    (l10 : K.lookup t10 = some ⟨.type "tuple", d10, .seq #[.none, .int 1 ti10] n10, s10⟩)
    (pgCP : PySem.W.plainGet K CP Str.empty = true)
    (hdCP : PySem.W.hasDictIn K CP = true)
    (poCP : PySem.W.plainOver K CP = true)
    (saCP : PySem.W.findIn K (.ref CP) "__setattr__" = some (some (.builtin "object.__setattr__")))
    (pgCF : PySem.W.plainGet K CF Str.empty = true)
    (hdCF : PySem.W.hasDictIn K CF = true)
    (poCF : PySem.W.plainOver K CF = true)
    (saCF : PySem.W.findIn K (.ref CF) "__setattr__" = some (some (.builtin "object.__setattr__")))
    (hac : PySem.W.findIn K (.ref CP) "__class__" = some (some (.builtin "object.__class__")))
    (hnc : PySem.W.specialIn K (.builtin "object.__class__") "__get__" = some (some (.builtin "getset_descriptor.__get__")))
    (htc : PySem.W.takesIn K (.builtin "object.__class__") = some true)
    (hmc : PySem.W.mroIn K CP (.type "object") = some true)
    (p0 : PySem.W.findIn K (.ref CP) "own_locks" = some none)
    (p1 : PySem.W.findIn K (.ref CP) "own_cells" = some none)
    (p2 : PySem.W.findIn K (.ref CP) "own_modes" = some none)
    (p3 : PySem.W.findIn K (.ref CP) "own_bodies" = some none)
    (p4 : PySem.W.findIn K (.ref CP) "own_threads" = some none)
    (q0 : PySem.W.findIn K (.ref CF) "own_moves" = some none)
    (q1 : PySem.W.findIn K (.ref CF) "own_procedures" = some none)
    (q2 : PySem.W.findIn K (.ref CF) "own_begins" = some none)
    (q3 : PySem.W.findIn K (.ref CF) "own_ends" = some none)
    (q4 : PySem.W.findIn K (.ref CF) "own_paths" = some none)
    (q5 : PySem.W.findIn K (.ref CF) "own_from" = some none)
    (go : ∀ (kd pw CP CF : Addr), Txt K w mg kd pw CP CF → mg "Program" = some (.ref CP) → mg "Flow" = some (.ref CF) → Goal) : Goal :=
  go kd pw CP CF (txt_mk KX G z0 z1 z2 z3 z4 z5 z6 z7 z8 z9 z10 z11 z12 z13 m0 m1 m2 m3 m4 m5 m6 m7 m8 akd apw aCP aCF lW lK lit low e0 l0 e1 l1 e2 l2 e3 l3 e4 l4 e5 l5 e6 l6 e7 l7 e8 l8 e9 l9 e10 l10 pgCP hdCP poCP saCP pgCF hdCF poCF saCF hac hnc htc hmc p0 p1 p2 p3 p4 q0 q1 q2 q3 q4 q5) (PySem.W.mg_of KX G aCP) (PySem.W.mg_of KX G aCF)
theorem fin_law {P : Program} {fa f : Addr} {fd : FuncData} (hmg : mg "law" = some (.ref fa)) (F : GFun K mg "law" st_law f fd) (ok : ∀ base : Heap, FnOk P w K mg base CX0 17 f fd ["_law_script"] (spLaw K)) :
    ∃ fd : FuncData, (∀ (s : Shared) (v : Value), BindsTo s fd ⟨[v], []⟩ [("_law_script", v)]) ∧ ∀ base : Heap, K.In base → base.Ns mainGlobals mg → FnOk P w K mg base CX0 17 fa fd ["_law_script"] (spLaw K) := by
  have e := hmg.symm.trans F.mgf
  cases e
  obtain ⟨oc, od, kV, doc, pm, an, cdv, ct, osl, rfl, lk, hcd⟩ := F.fn.ex
  exact ⟨_, fun s v => .of_eq rfl, fun base _ _ => ok base⟩
end
theorem walk {l : PySem.W.OpenLaw} {q : Program} {loose : List Str} {XP : (Str → Option Value) → Heap → Prop} {YP : World → Heap → Prop} {d : DefRec} {K : Params → PySem.W.Frag} (hn : l.most = some 63) (hdf : d.params.defaults = [])
    (hY : ∀ (w : World) (h : Heap), YP w h → (K w.params).In h)
    (F : ∀ (w : World) (mg : Str → Option Value) (fa : Addr) (h : Heap), (K w.params).In h → h.Ns mainGlobals mg → mg d.name = some (.ref fa) →
      ∃ fd : FuncData, (∀ (s : Shared) (u : Value), BindsTo s fd ⟨[u], []⟩ [("_law_script", u)]) ∧ ∀ base : Heap, (K w.params).In base → base.Ns mainGlobals mg → FnOk l.prog w (K w.params) mg base CX0 17 fa fd ["_law_script"] (spLaw (K w.params))) :
    PySem.W.WalkO q loose XP YP l.row.toRowW d [] (fun f vs => PySem.call f vs) :=
  L2.walk_of (n := 63) (k := 17) (x := "_law_script") (CX := fun _ => CX0) (sp := fun w => spLaw (K w.params)) hn (by decide) hdf ⟨rfl, by decide, by decide⟩ hY F (fun _ _ a ns hl _ hS => ⟨a, ns, rfl, hS, hl, fun _ => rfl⟩) fun _ _ _ _ _ z => z
end Dp
open PySem PySem.W PyProof.Rows
set_option maxRecDepth 100000 in
set_option maxHeartbeats 0 in
theorem PySem.Challenge.cw_cutruns_k24_whole_dead_places_by_stateme_holds : PySem.Challenge.rw_cutruns_k24_whole_dead_places_by_stateme.Holds := by
  w_on; o_law; k_head; (case hw => w_witness2)
  k_fill
  refine Dp.walk (l := PySem.Challenge.rw_cutruns_k24_whole_dead_places_by_stateme) rfl rfl (fun w h Y => PySem.W.kIn_of Y) ?F
  case F =>
    intro w mg fa h KX G hmg
    refine' Dp.w_txt (w := w) KX G ?z0 ?z1 ?z2 ?z3 ?z4 ?z5 ?z6 ?z7 ?z8 ?z9 ?z10 ?z11 ?z12 ?z13 ?m0 ?m1 ?m2 ?m3 ?m4 ?m5 ?m6 ?m7 ?m8 ?akd ?apw ?aCP ?aCF ?lW ?lK ?lit ?low ?e0 ?l0 ?e1 ?l1 ?e2 ?l2 ?e3 ?l3 ?e4 ?l4 ?e5 ?l5 ?e6 ?l6 ?e7 ?l7 ?e8 ?l8 ?e9 ?l9 ?e10 ?l10 ?pgCP ?hdCP ?poCP ?saCP ?pgCF ?hdCF ?poCF ?saCF ?hac ?hnc ?htc ?hmc ?p0 ?p1 ?p2 ?p3 ?p4 ?q0 ?q1 ?q2 ?q3 ?q4 ?q5 fun kd pw CP CF T hmP hmF => ?_
    (case z0 => k_is); (case z1 => k_is); (case z2 => k_is); (case z3 => k_is); (case z4 => k_is); (case z5 => k_is)
    (case z6 => k_is); (case z7 => k_is); (case z8 => k_is); (case z9 => k_is); (case z10 => k_is); (case z11 => k_is)
    (case z12 => k_is); (case z13 => k_is); (case m0 => k_is); (case m1 => k_is); (case m2 => k_is); (case m3 => k_is)
    (case m4 => k_is); (case m5 => k_is); (case m6 => k_is); (case m7 => k_is); (case m8 => k_is); (case akd => k_is)
    (case apw => k_is); (case aCP => k_is); (case aCF => k_is); (case lW => k_is); (case lK => k_is); (case lit => exact ⟨⟨_, _, rfl, rfl⟩, ⟨_, _, rfl, rfl⟩, ⟨_, _, rfl, rfl⟩, ⟨_, _, rfl, rfl⟩, ⟨_, _, rfl, rfl⟩, ⟨_, _, rfl, rfl⟩, ⟨_, _, rfl, rfl⟩, ⟨_, _, rfl, rfl⟩, ⟨_, _, rfl, rfl⟩, ⟨_, _, rfl, rfl⟩, ⟨_, _, rfl, rfl⟩, trivial⟩)
    (case low => rfl); (case e0 => k_is); (case l0 => k_is); (case e1 => k_is); (case l1 => k_is); (case e2 => k_is)
    (case l2 => k_is); (case e3 => k_is); (case l3 => k_is); (case e4 => k_is); (case l4 => k_is); (case e5 => k_is)
    (case l5 => k_is); (case e6 => k_is); (case l6 => k_is); (case e7 => k_is); (case l7 => k_is); (case e8 => k_is)
    (case l8 => k_is); (case e9 => k_is); (case l9 => k_is); (case e10 => k_is); (case l10 => k_is); (case pgCP => k_is)
    (case hdCP => k_is); (case poCP => k_is); (case saCP => k_is); (case pgCF => k_is); (case hdCF => k_is); (case poCF => k_is)
    (case saCF => k_is); (case hac => k_is); (case hnc => k_is); (case htc => k_is); (case hmc => k_is); (case p0 => k_is)
    (case p1 => k_is); (case p2 => k_is); (case p3 => k_is); (case p4 => k_is); (case q0 => k_is); (case q1 => k_is)
    (case q2 => k_is); (case q3 => k_is); (case q4 => k_is); (case q5 => k_is)
    refine' Dp.w_body KX G ?a ?l ?lT ?c ?k fun fb fdb FB hmB => ?_
    (case a => k_is); (case l => k_is); (case lT => k_is); (case c => k_is); (case k => k_is)
    refine' Dp.w_init (cls := "Program") (qual := "Program.__init__") (st := Dp.st_Program_init) KX G ?aC ?a ?i ?l ?c ?k ?mk ?kc fun CP1 fi fdi e1 PI => ?_
    (case aC => k_is); (case a => k_is); (case i => k_is); (case l => k_is); (case c => k_is); (case k => k_is)
    (case mk => k_is); (case kc => k_is)
    refine' Dp.w_met (cls := "Program") (m := "bodies") (qual := "Program.bodies") (st := Dp.st_Program_bodies) KX G ?aC ?a ?i ?l ?c ?k fun CP2 fm fdm e2 PM => ?_
    (case aC => k_is); (case a => k_is); (case i => k_is); (case l => k_is); (case c => k_is); (case k => k_is)
    refine' Dp.w_met (cls := "Program") (m := "threads") (qual := "Program.threads") (st := Dp.st_Program_threads) KX G ?aC ?a ?i ?l ?c ?k fun CP3 ft fdt e3 PT => ?_
    (case aC => k_is); (case a => k_is); (case i => k_is); (case l => k_is); (case c => k_is); (case k => k_is)
    refine' Dp.w_init (cls := "Flow") (qual := "Flow.__init__") (st := Dp.st_Flow_init) KX G ?aC ?a ?i ?l ?c ?k ?mk ?kc fun CF1 gi gdi e4 FI => ?_
    (case aC => k_is); (case a => k_is); (case i => k_is); (case l => k_is); (case c => k_is); (case k => k_is)
    (case mk => k_is); (case kc => k_is)
    refine' Dp.w_prop (cls := "Flow") (m := "places") (qual := "Flow.places") (st := Dp.st_Flow_places) KX G ?aC ?a ?sg ?tk ?rc ?l ?c ?k fun CF2 pp gp gdp e5 PR FP => ?_
    (case aC => k_is); (case a => k_is); (case sg => k_is); (case tk => k_is); (case rc => k_is); (case l => k_is)
    (case c => k_is); (case k => k_is)
    refine' Dp.w_g (x := "is_integer") (st := Dp.st_is_integer) KX G ?a ?l ?c ?k fun f_is_integer fd_is_integer F_is_integer => ?_
    (case a => k_is); (case l => k_is); (case c => k_is); (case k => k_is)
    refine' Dp.w_g (x := "is_count") (st := Dp.st_is_count) KX G ?a ?l ?c ?k fun f_is_count fd_is_count F_is_count => ?_
    (case a => k_is); (case l => k_is); (case c => k_is); (case k => k_is)
    refine' Dp.w_g (x := "is_list") (st := Dp.st_is_list) KX G ?a ?l ?c ?k fun f_is_list fd_is_list F_is_list => ?_
    (case a => k_is); (case l => k_is); (case c => k_is); (case k => k_is)
    refine' Dp.w_g (x := "is_statement_of") (st := Dp.st_is_statement_of) KX G ?a ?l ?c ?k fun f_is_statement_of fd_is_statement_of F_is_statement_of => ?_
    (case a => k_is); (case l => k_is); (case c => k_is); (case k => k_is)
    refine' Dp.w_g (x := "bodies_of") (st := Dp.st_bodies_of) KX G ?a ?l ?c ?k fun f_bodies_of fd_bodies_of F_bodies_of => ?_
    (case a => k_is); (case l => k_is); (case c => k_is); (case k => k_is)
    refine' Dp.w_g (x := "body_size") (st := Dp.st_body_size) KX G ?a ?l ?c ?k fun f_body_size fd_body_size F_body_size => ?_
    (case a => k_is); (case l => k_is); (case c => k_is); (case k => k_is)
    refine' Dp.w_g (x := "is_number_to") (st := Dp.st_is_number_to) KX G ?a ?l ?c ?k fun f_is_number_to fd_is_number_to F_is_number_to => ?_
    (case a => k_is); (case l => k_is); (case c => k_is); (case k => k_is)
    refine' Dp.w_g (x := "are_bodies") (st := Dp.st_are_bodies) KX G ?a ?l ?c ?k fun f_are_bodies fd_are_bodies F_are_bodies => ?_
    (case a => k_is); (case l => k_is); (case c => k_is); (case k => k_is)
    refine' Dp.w_g (x := "are_threads") (st := Dp.st_are_threads) KX G ?a ?l ?c ?k fun f_are_threads fd_are_threads F_are_threads => ?_
    (case a => k_is); (case l => k_is); (case c => k_is); (case k => k_is)
    refine' Dp.w_g (x := "statements_in") (st := Dp.st_statements_in) KX G ?a ?l ?c ?k fun f_statements_in fd_statements_in F_statements_in => ?_
    (case a => k_is); (case l => k_is); (case c => k_is); (case k => k_is)
    refine' Dp.w_g (x := "want_program") (st := Dp.st_want_program) KX G ?a ?l ?c ?k fun f_want_program fd_want_program F_want_program => ?_
    (case a => k_is); (case l => k_is); (case c => k_is); (case k => k_is)
    refine' Dp.w_g (x := "next_place") (st := Dp.st_next_place) KX G ?a ?l ?c ?k fun f_next_place fd_next_place F_next_place => ?_
    (case a => k_is); (case l => k_is); (case c => k_is); (case k => k_is)
    refine' Dp.w_g (x := "lay_move") (st := Dp.st_lay_move) KX G ?a ?l ?c ?k fun f_lay_move fd_lay_move F_lay_move => ?_
    (case a => k_is); (case l => k_is); (case c => k_is); (case k => k_is)
    refine' Dp.w_g (x := "lay_body") (st := Dp.st_lay_body) KX G ?a ?l ?c ?k fun f_lay_body fd_lay_body F_lay_body => ?_
    (case a => k_is); (case l => k_is); (case c => k_is); (case k => k_is)
    refine' Dp.w_g (x := "lay_statement") (st := Dp.st_lay_statement) KX G ?a ?l ?c ?k fun f_lay_statement fd_lay_statement F_lay_statement => ?_
    (case a => k_is); (case l => k_is); (case c => k_is); (case k => k_is)
    refine' Dp.w_g (x := "lay_hold") (st := Dp.st_lay_hold) KX G ?a ?l ?c ?k fun f_lay_hold fd_lay_hold F_lay_hold => ?_
    (case a => k_is); (case l => k_is); (case c => k_is); (case k => k_is)
    refine' Dp.w_g (x := "flow_of") (st := Dp.st_flow_of) KX G ?a ?l ?c ?k fun f_flow_of fd_flow_of F_flow_of => ?_
    (case a => k_is); (case l => k_is); (case c => k_is); (case k => k_is)
    refine' Dp.w_g (x := "dead_by_flow") (st := Dp.st_dead_by_flow) KX G ?a ?l ?c ?k fun f_dead_by_flow fd_dead_by_flow F_dead_by_flow => ?_
    (case a => k_is); (case l => k_is); (case c => k_is); (case k => k_is)
    refine' Dp.w_g (x := "dead_places") (st := Dp.st_dead_places) KX G ?a ?l ?c ?k fun f_dead_places fd_dead_places F_dead_places => ?_
    (case a => k_is); (case l => k_is); (case c => k_is); (case k => k_is)
    refine' Dp.w_g (x := "_law_pot") (st := Dp.st_law_pot) KX G ?a ?l ?c ?k fun f_law_pot fd_law_pot F_law_pot => ?_
    (case a => k_is); (case l => k_is); (case c => k_is); (case k => k_is)
    refine' Dp.w_g (x := "_law_draw") (st := Dp.st_law_draw) KX G ?a ?l ?c ?k fun f_law_draw fd_law_draw F_law_draw => ?_
    (case a => k_is); (case l => k_is); (case c => k_is); (case k => k_is)
    refine' Dp.w_g (x := "_law_pick") (st := Dp.st_law_pick) KX G ?a ?l ?c ?k fun f_law_pick fd_law_pick F_law_pick => ?_
    (case a => k_is); (case l => k_is); (case c => k_is); (case k => k_is)
    refine' Dp.w_g (x := "_law_body") (st := Dp.st_law_body) KX G ?a ?l ?c ?k fun f_law_body fd_law_body F_law_body => ?_
    (case a => k_is); (case l => k_is); (case c => k_is); (case k => k_is)
    refine' Dp.w_g (x := "_law_statement") (st := Dp.st_law_statement) KX G ?a ?l ?c ?k fun f_law_statement fd_law_statement F_law_statement => ?_
    (case a => k_is); (case l => k_is); (case c => k_is); (case k => k_is)
    refine' Dp.w_g (x := "_law_drawn") (st := Dp.st_law_drawn) KX G ?a ?l ?c ?k fun f_law_drawn fd_law_drawn F_law_drawn => ?_
    (case a => k_is); (case l => k_is); (case c => k_is); (case k => k_is)
    refine' Dp.w_g (x := "_law_made") (st := Dp.st_law_made) KX G ?a ?l ?c ?k fun f_law_made fd_law_made F_law_made => ?_
    (case a => k_is); (case l => k_is); (case c => k_is); (case k => k_is)
    refine' Dp.w_g (x := "_law_next") (st := Dp.st_law_next) KX G ?a ?l ?c ?k fun f_law_next fd_law_next F_law_next => ?_
    (case a => k_is); (case l => k_is); (case c => k_is); (case k => k_is)
    refine' Dp.w_g (x := "_law_lay_body") (st := Dp.st_law_lay_body) KX G ?a ?l ?c ?k fun f_law_lay_body fd_law_lay_body F_law_lay_body => ?_
    (case a => k_is); (case l => k_is); (case c => k_is); (case k => k_is)
    refine' Dp.w_g (x := "_law_lay") (st := Dp.st_law_lay) KX G ?a ?l ?c ?k fun f_law_lay fd_law_lay F_law_lay => ?_
    (case a => k_is); (case l => k_is); (case c => k_is); (case k => k_is)
    refine' Dp.w_g (x := "_law_flow") (st := Dp.st_law_flow) KX G ?a ?l ?c ?k fun f_law_flow fd_law_flow F_law_flow => ?_
    (case a => k_is); (case l => k_is); (case c => k_is); (case k => k_is)
    refine' Dp.w_g (x := "_law_can_end") (st := Dp.st_law_can_end) KX G ?a ?l ?c ?k fun f_law_can_end fd_law_can_end F_law_can_end => ?_
    (case a => k_is); (case l => k_is); (case c => k_is); (case k => k_is)
    refine' Dp.w_g (x := "_law_ending") (st := Dp.st_law_ending) KX G ?a ?l ?c ?k fun f_law_ending fd_law_ending F_law_ending => ?_
    (case a => k_is); (case l => k_is); (case c => k_is); (case k => k_is)
    refine' Dp.w_g (x := "_law_walk") (st := Dp.st_law_walk) KX G ?a ?l ?c ?k fun f_law_walk fd_law_walk F_law_walk => ?_
    (case a => k_is); (case l => k_is); (case c => k_is); (case k => k_is)
    refine' Dp.w_g (x := "_law_alive") (st := Dp.st_law_alive) KX G ?a ?l ?c ?k fun f_law_alive fd_law_alive F_law_alive => ?_
    (case a => k_is); (case l => k_is); (case c => k_is); (case k => k_is)
    refine' Dp.w_g (x := "_law_right") (st := Dp.st_law_right) KX G ?a ?l ?c ?k fun f_law_right fd_law_right F_law_right => ?_
    (case a => k_is); (case l => k_is); (case c => k_is); (case k => k_is)
    refine' Dp.w_g (x := "law") (st := Dp.st_law) KX G ?a ?l ?c ?k fun f_law fd_law F_law => ?_
    (case a => k_is); (case l => k_is); (case c => k_is); (case k => k_is)
    cases hmP.symm.trans e1
    cases hmP.symm.trans e2
    cases hmP.symm.trans e3
    cases hmF.symm.trans e4
    cases hmF.symm.trans e5
    exact Dp.fin_law hmg F_law fun base => Dp.law_fn T hmP hmF FB hmB PI PM PT FI PR FP F_is_integer F_is_count F_is_list F_is_statement_of F_bodies_of F_body_size F_is_number_to F_are_bodies F_are_threads F_statements_in F_want_program F_next_place F_lay_move F_lay_body F_lay_statement F_lay_hold F_flow_of F_dead_by_flow F_dead_places F_law_pot F_law_draw F_law_pick F_law_body F_law_statement F_law_drawn F_law_made F_law_next F_law_lay_body F_law_lay F_law_flow F_law_can_end F_law_ending F_law_walk F_law_alive F_law_right F_law
