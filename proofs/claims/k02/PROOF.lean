import PyProof.Rows.All
import Wide.All
import OpenK.AllK
import Wide.FinOn
import KE.KStateDown
import HandS.ForMost
import HandS.More
import HandS.WordsExc
import HandS.Conv
import HandS.SetFor
import HandS.Style
import HandS.TupAny
import HandS.Deep
import HandS.Defaults
import HandS.IsInst
import HandS.SortRule
import HandS.Head0
import HandS.Head1
import HandS.Head2
import HandS.HeadEnd
import HandS.HeadHook1
import HandS.HeadHook2
import HandS.EndTab
import HandS.HeadWalk
import KE.KNestM
import HandS.HeadHook3
import HandS.HeadHook4
import HandS.ExcInit
import HandS.ExcOwn
import HandS.ExcIs
import HandS.ExcInitHot
import KE.KExcIs
import HandS.ExcField
import KE.KDflt
import HandS.Lambda
import HandS.Nested
import HandS.ExcCtx
import PySem.Challenge.RW_stalestack_k02_none_such
/-! The machine of hands as a plain function: what a turn tells and leaves. -/
namespace SS

inductive Deed where
  | pop
  | push (v : Int)
  deriving DecidableEq, Repr

inductive Rule where
  | counts (m : Nat)
  | marks (hs : List Nat)
  | keeps
  deriving DecidableEq, Repr

inductive Ans where
  | non
  | done
  | val (v : Int)
  deriving DecidableEq, Repr

inductive Tell where
  | rests
  | takes (c : Nat)
  | reads (t : Nat)
  | ends (a : Ans)
  | links (t : Nat)
  | marks (c : Nat)
  | looks (b : Bool)
  | follows (n : Nat)
  | exchanges (n : Nat)
  | misses
  deriving DecidableEq, Repr

structure Hd where
  at_ : Nat := 0
  cell : Nat := 0
  seen : Option (Nat × Nat) := none
  follow : Option Nat := none
  mark : Nat := 0
  looked : Bool := false
  said : List Ans := []
  deriving DecidableEq, Repr

structure M where
  rule : Rule
  progs : List (List Deed)
  worths : List Int
  links : List Nat
  top : Nat
  count : Nat
  freed : List Nat
  hands : List Hd
  ends : List (Nat × Nat)
  strayed : Bool
  deriving DecidableEq, Repr

def M.begin_ (values : List Int) (progs : List (List Deed)) (rule : Rule) : M where
  rule := rule
  progs := progs
  worths := values
  links := List.range values.length
  top := values.length
  count := 0
  freed := []
  hands := progs.map fun _ => {}
  ends := []
  strayed := false

def M.hd (m : M) (h : Nat) : Hd := m.hands.getD h {}
def M.prog (m : M) (h : Nat) : List Deed := m.progs.getD h []
def M.setH (m : M) (h : Nat) (x : Hd) : M := { m with hands := m.hands.set h x }
def M.rests (m : M) (h : Nat) : Bool := (m.hd h).at_ == (m.prog h).length
def M.marked (m : M) : List Nat := (m.hands.map (·.mark)).filter (· != 0)

def Hd.forgot (x : Hd) : Hd := { x with seen := none, follow := none, looked := false }
def Hd.ended (x : Hd) (a : Ans) : Hd :=
  { at_ := x.at_ + 1, cell := 0, seen := none, follow := none, mark := 0, looked := false, said := x.said ++ [a] }

/-- the free cell that a push takes, if there is one -/
def pick (rule : Rule) (marked freed : List Nat) : Option Nat :=
  if rule = .keeps then none else freed.find? fun c => !marked.contains c
/-- a cell for a value -/
def M.taken (m : M) (v : Int) : Nat × M :=
  match pick m.rule m.marked m.freed with
  | some c => (c, { m with freed := m.freed.erase c, worths := m.worths.set (c - 1) v })
  | none => (m.worths.length + 1, { m with worths := m.worths ++ [v], links := m.links ++ [0] })

def M.turned (m : M) : Nat :=
  match m.rule with
  | .counts k => (m.count + 1) % k
  | _ => m.count
/-- the top is exchanged -/
def M.exchd (m : M) (h c : Nat) : M :=
  { m with top := c, count := m.turned, ends := m.ends ++ [(h, (m.hd h).at_)] }
def M.fits (m : M) (h : Nat) : Bool := decide ((m.hd h).seen = some (m.top, m.count))
def M.exch (m : M) (h c : Nat) : Bool × M :=
  if m.fits h then (true, m.exchd h c) else (false, m.setH h (m.hd h).forgot)

def M.endedH (m : M) (h : Nat) (a : Ans) : M := m.setH h ((m.hd h).ended a)

def M.read (m : M) (h : Nat) (d : Deed) : Tell × M :=
  if m.top = 0 ∧ d = .pop then
    (.ends .non, { m with ends := m.ends ++ [(h, (m.hd h).at_)] }.endedH h .non)
  else (.reads m.top, m.setH h { m.hd h with seen := some (m.top, m.count) })

def M.push (m : M) (h : Nat) (t : Nat) : Tell × M :=
  match (m.hd h).follow with
  | none => (.links t, { m with links := m.links.set ((m.hd h).cell - 1) t }.setH h { m.hd h with follow := some t })
  | some _ =>
    if m.fits h then (.ends .done, (m.exchd h (m.hd h).cell).endedH h .done)
    else (.misses, m.setH h (m.hd h).forgot)

def Rule.named (r : Rule) (h : Nat) : Bool :=
  match r with
  | .marks hs => hs.contains h
  | _ => false

def M.guard (m : M) (h c : Nat) : Tell × M :=
  if (m.hd h).mark ≠ c then (.marks c, m.setH h { m.hd h with mark := c })
  else if m.top ≠ c then (.looks false, m.setH h (m.hd h).forgot)
  else (.looks true, m.setH h { m.hd h with looked := true })

def M.pop (m : M) (h : Nat) (t : Nat) : Tell × M :=
  if (m.hd h).cell ≠ 0 then
    (.ends (.val (m.worths.getD ((m.hd h).cell - 1) 0)),
      { m with freed := m.freed ++ [(m.hd h).cell] }.endedH h (.val (m.worths.getD ((m.hd h).cell - 1) 0)))
  else if m.rule.named h ∧ (m.hd h).looked = false then m.guard h t
  else match (m.hd h).follow with
    | none => (.follows (m.links.getD (t - 1) 0), m.setH h { m.hd h with follow := some (m.links.getD (t - 1) 0) })
    | some f =>
      if m.fits h then
        (.exchanges f,
          { m.exchd h f with strayed := m.strayed || m.links.getD (t - 1) 0 != f }.setH h { m.hd h with cell := t })
      else (.misses, m.setH h (m.hd h).forgot)

def M.turn (m : M) (h : Nat) : Tell × M :=
  match (m.prog h)[(m.hd h).at_]? with
  | none => (.rests, m)
  | some (.push v) =>
    if (m.hd h).cell = 0 then
      let r := m.taken v
      (.takes r.1, r.2.setH h { m.hd h with cell := r.1 })
    else match (m.hd h).seen with
      | none => m.read h (.push v)
      | some s => m.push h s.1
  | some .pop =>
    match (m.hd h).seen with
    | none => m.read h .pop
    | some s => m.pop h s.1

def M.step (m : M) (h : Nat) : M := (m.turn h).2
def M.run (m : M) (w : List Nat) : M := w.foldl M.step m

def M.pileFrom (links : List Nat) : Nat → List Nat → Nat → List Nat
  | 0, found, _ => found
  | n + 1, found, cell => if cell = 0 ∨ cell ∈ found then found else M.pileFrom links n (found ++ [cell]) (links.getD (cell - 1) 0)
def M.pile (m : M) : List Nat := M.pileFrom m.links (m.links.length + 1) [] m.top
def M.pileValues (m : M) : List Int := m.pile.map fun c => m.worths.getD (c - 1) 0
def M.isDone (m : M) : Bool := (List.range m.hands.length).all m.rests

end SS

set_option linter.all false
/-! What holds of the machine behind every step. -/
namespace SS
def okVal (v : Int) : Prop := 0 ≤ v ∧ v ≤ 99
def okDeed : Deed → Prop
  | .pop => True
  | .push v => okVal v
def rising : List Nat → Prop
  | [] => True
  | [_] => True
  | a :: b :: l => a < b ∧ rising (b :: l)
def okRule (many : Nat) : Rule → Prop
  | .counts m => 1 ≤ m ∧ m ≤ 15
  | .marks hs => (∀ h ∈ hs, h < many) ∧ rising hs ∧ hs.length ≤ 1000
  | .keeps => True
structure okIn (values : List Int) (progs : List (List Deed)) (rule : Rule) : Prop where
  vlen : values.length ≤ 6
  vals : ∀ v ∈ values, okVal v
  plen : 1 ≤ progs.length ∧ progs.length ≤ 3
  dlen : ∀ p ∈ progs, p.length ≤ 4
  deeds : ∀ p ∈ progs, ∀ d ∈ p, okDeed d
  rule : okRule progs.length rule
def okCount (m : M) : Prop := ∀ k, m.rule = .counts k → 0 < k
/-- what every step rests on -/
structure Wf (m : M) : Prop where
  ps : m.progs.length = m.hands.length
  hn : m.hands.length ≤ 1000
  wl : m.worths.length < 1000
  ll : m.links.length = m.worths.length
  fl : m.freed.length < 1000
  el : m.ends.length < 1000
  count : okCount m
  sl : ∀ h, (m.hd h).said.length < 1000
  at_ : ∀ h, (m.hd h).at_ ≤ (m.prog h).length
  fr : ∀ c ∈ m.freed, 1 ≤ c ∧ c ≤ m.worths.length
  cell : ∀ h, (m.hd h).cell ≤ m.worths.length
  pushC : ∀ h v s, (m.prog h)[(m.hd h).at_]? = some (.push v) → (m.hd h).seen = some s → 1 ≤ (m.hd h).cell
  popC : ∀ h s, (m.prog h)[(m.hd h).at_]? = some .pop → (m.hd h).seen = some s → 1 ≤ s.1 ∧ s.1 ≤ m.worths.length
/-- the cells that may be met lie there -/
structure PileOk (m : M) : Prop where
  wl : m.worths.length ≤ 1000
  ll : m.links.length = m.worths.length
  top : m.top ≤ m.links.length
  links : ∀ c ∈ m.links, c ≤ m.links.length

/-! ### one hand -/
structure HOk (n : Nat) (p : List Deed) (x : Hd) : Prop where
  said : x.said.length = x.at_
  at_ : x.at_ ≤ p.length
  fin : p[x.at_]? = none → x.cell = 0 ∧ x.seen = none
  cell : x.cell ≤ n
  seen : ∀ s, x.seen = some s → s.1 ≤ n
  follow : ∀ f, x.follow = some f → f ≤ n
  pushC : ∀ v s, p[x.at_]? = some (.push v) → x.seen = some s → 1 ≤ x.cell
  popC : ∀ s, p[x.at_]? = some .pop → x.seen = some s → 1 ≤ s.1
  popS : p[x.at_]? = some .pop → x.cell ≠ 0 → x.seen ≠ none
theorem HOk.mono {n n' : Nat} {p : List Deed} {x : Hd} (h : HOk n p x) (l : n ≤ n') : HOk n' p x :=
  ⟨h.said, h.at_, h.fin, Nat.le_trans h.cell l, fun s e => Nat.le_trans (h.seen s e) l, fun s e => Nat.le_trans (h.follow s e) l, h.pushC, h.popC, h.popS⟩
/-- cells taken, deeds decided, deeds ended by a hand -/
def used (x : Hd) : Nat := x.at_ + if x.cell = 0 then 0 else 1
def decd (p : List Deed) (x : Hd) : Nat := x.at_ + if p[x.at_]? = some .pop ∧ x.cell ≠ 0 then 1 else 0
theorem HOk.used_le {n : Nat} {p : List Deed} {x : Hd} (h : HOk n p x) : used x ≤ p.length := by
  unfold used
  have := h.at_
  split
  · omega
  · rename_i hc
    have : p[x.at_]? ≠ none := fun e => hc (h.fin e).1
    have : x.at_ < p.length := by
      have z : ¬ p.length ≤ x.at_ := fun q => this (List.getElem?_eq_none q)
      omega
    omega
theorem HOk.dec_le {n : Nat} {p : List Deed} {x : Hd} (h : HOk n p x) : decd p x ≤ p.length := by
  unfold decd
  have := h.at_
  split
  · rename_i hc
    have := (List.getElem?_eq_some_iff.mp hc.1).1
    omega
  · omega

/-! ### sums over the hands -/
def sumTo (f : Nat → Nat) : Nat → Nat
  | 0 => 0
  | n + 1 => sumTo f n + f n
theorem sumTo_le {f g : Nat → Nat} : ∀ {n : Nat}, (∀ i, i < n → f i ≤ g i) → sumTo f n ≤ sumTo g n
  | 0, _ => Nat.le_refl _
  | n + 1, h => Nat.add_le_add (sumTo_le fun i hi => h i (by omega)) (h n (by omega))
theorem sumTo_congr {f g : Nat → Nat} {n : Nat} (h : ∀ i, i < n → f i = g i) : sumTo f n = sumTo g n :=
  Nat.le_antisymm (sumTo_le fun i hi => Nat.le_of_eq (h i hi)) (sumTo_le fun i hi => Nat.le_of_eq (h i hi).symm)
theorem sumTo_set {f g : Nat → Nat} {k : Nat} : ∀ {n : Nat}, k < n → (∀ i, i < n → i ≠ k → f i = g i) → sumTo f n + g k = sumTo g n + f k
  | 0, h, _ => by omega
  | n + 1, hk, h => by
    by_cases e : k = n
    · subst e
      have := sumTo_congr (f := f) (g := g) (n := k) fun i hi => h i (by omega) (by omega)
      show sumTo f k + f k + g k = sumTo g k + g k + f k
      omega
    · have ih := sumTo_set (f := f) (g := g) (k := k) (n := n) (by omega) fun i hi ne => h i (by omega) ne
      have := h n (by omega) (fun z => e z.symm)
      show sumTo f n + f n + g k = sumTo g n + g n + f k
      omega
theorem sumTo_const (c n : Nat) : sumTo (fun _ => c) n = n * c := by
  induction n with
  | zero => simp [sumTo]
  | succ n ih => simp [sumTo, ih, Nat.succ_mul]

/-! ### all of it -/
structure Good (W : Nat) (m : M) : Prop where
  ps : m.progs.length = m.hands.length
  ll : m.links.length = m.worths.length
  wl : m.worths.length ≤ W + sumTo (fun i => used (m.hd i)) m.hands.length
  fl : m.freed.length ≤ sumTo (fun i => (m.hd i).at_) m.hands.length
  el : m.ends.length ≤ sumTo (fun i => decd (m.prog i) (m.hd i)) m.hands.length
  count : okCount m
  hand : ∀ i, i < m.hands.length → HOk m.worths.length (m.prog i) (m.hd i)
  fr : ∀ c ∈ m.freed, 1 ≤ c ∧ c ≤ m.worths.length
  top : m.top ≤ m.worths.length
  links : ∀ c ∈ m.links, c ≤ m.worths.length

theorem M.hd_setH {m : M} {h i : Nat} {x : Hd} (hl : h < m.hands.length) : (m.setH h x).hd i = if i = h then x else m.hd i := by
  unfold M.hd M.setH
  simp only [List.getD_eq_getElem?_getD, List.getElem?_set]
  by_cases e : h = i
  · subst e
    simp [hl]
  · simp [e, Ne.symm e]
theorem M.setH_hd {m : M} {h : Nat} {x : Hd} (hl : h < m.hands.length) : (m.setH h x).hd h = x := by rw [M.hd_setH hl, if_pos rfl]
theorem M.setH_ne {m : M} {h i : Nat} {x : Hd} (hl : h < m.hands.length) (e : i ≠ h) : (m.setH h x).hd i = m.hd i := by rw [M.hd_setH hl, if_neg e]
theorem M.setH_len {m : M} {h : Nat} {x : Hd} : (m.setH h x).hands.length = m.hands.length := by simp [M.setH]
theorem M.setH_setH {m : M} {h : Nat} {x y : Hd} : (m.setH h x).setH h y = m.setH h y := by simp [M.setH, List.set_set]
theorem M.setH_self {m : M} {h : Nat} : m.setH h (m.hd h) = m := by
  unfold M.setH M.hd
  have : m.hands.set h (m.hands.getD h {}) = m.hands := by
    apply List.ext_getElem?
    intro i
    rw [List.getElem?_set]
    split
    · rename_i e
      subst e
      split
      · rename_i hl
        simp [List.getD_eq_getElem?_getD, List.getElem?_eq_getElem hl]
      · rename_i hl
        rw [List.getElem?_eq_none (by omega)]
    · rfl
  rw [this]

/-- one hand has turned: m1 is m but for its shared parts, x the hand's new self -/
theorem Good.turned {W : Nat} {m m1 : M} {h : Nat} {x : Hd} (g : Good W m) (hl : h < m.hands.length) (eh : m1.hands = m.hands) (ep : m1.progs = m.progs) (er : m1.rule = m.rule)
    (ll : m1.links.length = m1.worths.length) (wn : m.worths.length ≤ m1.worths.length) (wl : m1.worths.length + used (m.hd h) ≤ m.worths.length + used x) (fl : m1.freed.length + (m.hd h).at_ ≤ m.freed.length + x.at_)
    (el : m1.ends.length + decd (m.prog h) (m.hd h) ≤ m.ends.length + decd (m.prog h) x) (hx : HOk m1.worths.length (m.prog h) x) (fr : ∀ c ∈ m1.freed, 1 ≤ c ∧ c ≤ m1.worths.length) (top : m1.top ≤ m1.worths.length) (links : ∀ c ∈ m1.links, c ≤ m1.worths.length) :
    Good W (m1.setH h x) := by
  have hl1 : h < m1.hands.length := by rw [eh]; exact hl
  have hd1 : ∀ i, m1.hd i = m.hd i := fun i => by unfold M.hd; rw [eh]
  have hp : ∀ i, (m1.setH h x).prog i = m.prog i := fun i => by
    show m1.progs.getD i [] = m.progs.getD i []
    rw [ep]
  have hn : (m1.setH h x).hands.length = m.hands.length := by rw [M.setH_len, eh]
  have hd2 : ∀ i, i ≠ h → (m1.setH h x).hd i = m.hd i := fun i e => by rw [M.setH_ne hl1 e, hd1]
  have hd3 : (m1.setH h x).hd h = x := M.setH_hd hl1
  refine ⟨?_, ll, ?_, ?_, ?_, ?_, ?_, fr, top, links⟩
  · rw [hn]
    show m1.progs.length = _
    rw [ep]
    exact g.ps
  · rw [hn]
    have := sumTo_set (f := fun i => used ((m1.setH h x).hd i)) (g := fun i => used (m.hd i)) hl fun i _ e => by rw [hd2 i e]
    simp only [hd3] at this
    have := g.wl
    show m1.worths.length ≤ _
    omega
  · rw [hn]
    have := sumTo_set (f := fun i => ((m1.setH h x).hd i).at_) (g := fun i => (m.hd i).at_) hl fun i _ e => by rw [hd2 i e]
    simp only [hd3] at this
    have := g.fl
    show m1.freed.length ≤ _
    omega
  · rw [hn]
    have := sumTo_set (f := fun i => decd ((m1.setH h x).prog i) ((m1.setH h x).hd i)) (g := fun i => decd (m.prog i) (m.hd i)) hl fun i _ e => by rw [hd2 i e, hp]
    simp only [hd3, hp] at this ⊢
    have := g.el
    show m1.ends.length ≤ _
    omega
  · intro k hk
    exact g.count k (by rw [← er]; exact hk)
  · intro i hi
    rw [hn] at hi
    rw [hp]
    show HOk m1.worths.length _ _
    by_cases e : i = h
    · subst e
      rw [hd3]
      exact hx
    · rw [hd2 i e]
      exact (g.hand i hi).mono wn
theorem HOk.forgot {n : Nat} {p : List Deed} {x : Hd} (h : HOk n p x) (hc : p[x.at_]? = some .pop → x.cell = 0) : HOk n p x.forgot :=
  ⟨h.said, h.at_, fun e => ⟨(h.fin e).1, rfl⟩, h.cell, fun s e => (by cases e), fun s e => (by cases e), fun v s _ e => (by cases e), fun s _ e => (by cases e), fun e c => absurd (hc e) c⟩
theorem HOk.ended {n : Nat} {p : List Deed} {x : Hd} {d : Deed} (h : HOk n p x) (hd : p[x.at_]? = some d) (a : Ans) : HOk n p (x.ended a) := by
  refine ⟨?_, ?_, fun e => ⟨rfl, rfl⟩, Nat.zero_le _, fun s e => (by cases e), fun s e => (by cases e), fun v s _ e => (by cases e), fun s _ e => (by cases e), fun e c => absurd rfl c⟩
  · show (x.said ++ [a]).length = x.at_ + 1
    rw [List.length_append, h.said]
    rfl
  · have := (List.getElem?_eq_some_iff.mp hd).1
    exact this
theorem getD_le {l : List Nat} {n i : Nat} (h : ∀ c ∈ l, c ≤ n) : l.getD i 0 ≤ n := by
  rw [List.getD_eq_getElem?_getD]
  cases e : l[i]? with
  | none => exact Nat.zero_le _
  | some c => exact h c (List.mem_of_getElem? e)
theorem mem_set_le {l : List Nat} {n i t : Nat} (h : ∀ c ∈ l, c ≤ n) (ht : t ≤ n) : ∀ c ∈ l.set i t, c ≤ n := fun c hc => by
  rcases List.mem_or_eq_of_mem_set hc with z | z
  · exact h c z
  · omega
theorem used_ended {x : Hd} {a : Ans} : used (x.ended a) = x.at_ + 1 := by simp [used, Hd.ended]
theorem decd_ended {p : List Deed} {x : Hd} {a : Ans} : decd p (x.ended a) = x.at_ + 1 := by simp [decd, Hd.ended]
theorem used_lt {x : Hd} : used x ≤ x.at_ + 1 := by unfold used; split <;> omega
theorem pick_mem {r : Rule} {mk fr : List Nat} {c : Nat} (h : pick r mk fr = some c) : c ∈ fr := by
  unfold pick at h
  split at h
  · cases h
  · exact List.mem_of_find?_eq_some h

theorem used_cell (x : Hd) (c : Nat) : used { x with cell := c } = x.at_ + if c = 0 then 0 else 1 := rfl
theorem taken_some {m : M} {v : Int} {c : Nat} (h : pick m.rule m.marked m.freed = some c) : m.taken v = (c, { m with freed := m.freed.erase c, worths := m.worths.set (c - 1) v }) := by unfold M.taken; rw [h]
theorem taken_none {m : M} {v : Int} (h : pick m.rule m.marked m.freed = none) : m.taken v = (m.worths.length + 1, { m with worths := m.worths ++ [v], links := m.links ++ [0] }) := by unfold M.taken; rw [h]
theorem Good.turn {W : Nat} {m : M} {h : Nat} (g : Good W m) (hl : h < m.hands.length) : Good W (m.step h) := by
  have hx := g.hand h hl
  have self : ∀ {x : Hd}, used x = used (m.hd h) → x.at_ = (m.hd h).at_ → decd (m.prog h) x = decd (m.prog h) (m.hd h) → HOk m.worths.length (m.prog h) x → Good W (m.setH h x) := fun {x} e1 e2 e3 hx' =>
    g.turned hl rfl rfl rfl g.ll (Nat.le_refl _) (by omega) (by omega) (by omega) hx' g.fr g.top g.links
  unfold M.step M.turn
  cases hd : (m.prog h)[(m.hd h).at_]? with
  | none => exact g
  | some d =>
    have hat := (List.getElem?_eq_some_iff.mp hd).1
    cases d with
    | push v =>
      have dn : ∀ x : Hd, x.at_ = (m.hd h).at_ → decd (m.prog h) x = x.at_ := fun x e => by
        unfold decd
        rw [e, hd]
        simp
      simp only
      by_cases hc : (m.hd h).cell = 0
      · rw [if_pos hc]
        have u0 : used (m.hd h) = (m.hd h).at_ := by unfold used; rw [if_pos hc]; rfl
        have sn : (m.hd h).seen = none := by
          cases es : (m.hd h).seen with
          | none => rfl
          | some s =>
            have := hx.pushC v s hd es
            omega
        cases hp : pick m.rule m.marked m.freed with
        | some c =>
          rw [taken_some hp]
          show Good W (M.setH _ h { m.hd h with cell := c })
          have hc' := g.fr c (pick_mem hp)
          refine g.turned (m1 := { m with freed := m.freed.erase c, worths := m.worths.set (c - 1) v }) hl rfl rfl rfl (by simp [g.ll]) (by simp) ?_ ?_ ?_ ?_ ?_ (by simpa using g.top) (by simpa using g.links)
          · have e := used_cell (m.hd h) c
            rw [if_neg (by omega)] at e
            simp only [List.length_set]
            omega
          · simp only
            have := List.length_erase_le (a := c) (l := m.freed)
            omega
          · rw [dn { m.hd h with cell := c } rfl, dn (m.hd h) rfl]
            exact Nat.le_refl _
          · simp only [List.length_set]
            exact ⟨hx.said, hx.at_, fun e => absurd (hd.symm.trans e) (by simp), hc'.2, hx.seen, hx.follow, fun _ _ _ _ => hc'.1, hx.popC, fun e => absurd (hd.symm.trans e) (by simp)⟩
          · intro y hy
            have := g.fr y (List.mem_of_mem_erase hy)
            simpa using this
        | none =>
          rw [taken_none hp]
          show Good W (M.setH _ h { m.hd h with cell := m.worths.length + 1 })
          refine g.turned (m1 := { m with worths := m.worths ++ [v], links := m.links ++ [0] }) hl rfl rfl rfl (by simp [g.ll]) (by simp) ?_ ?_ ?_ ?_ ?_ ?_ ?_
          · have e := used_cell (m.hd h) (m.worths.length + 1)
            rw [if_neg (by omega)] at e
            simp only [List.length_append, List.length_singleton]
            omega
          · simp only
            omega
          · rw [dn { m.hd h with cell := m.worths.length + 1 } rfl, dn (m.hd h) rfl]
            exact Nat.le_refl _
          · simp only [List.length_append, List.length_singleton]
            have hx' := hx.mono (Nat.le_succ m.worths.length)
            exact ⟨hx.said, hx.at_, fun e => absurd (hd.symm.trans e) (by simp), Nat.le_refl _, hx'.seen, hx'.follow, fun _ _ _ _ => (by show 1 ≤ m.worths.length + 1; omega), hx.popC, fun e => absurd (hd.symm.trans e) (by simp)⟩
          · intro y hy
            have := g.fr y hy
            simp only [List.length_append, List.length_singleton]
            omega
          · have := g.top
            simp only [List.length_append, List.length_singleton]
            omega
          · intro y hy
            simp only [List.length_append, List.length_singleton]
            rcases List.mem_append.mp hy with z | z
            · have := g.links y z
              omega
            · have : y = 0 := by simpa using z
              omega
      · rw [if_neg hc]
        have u1 : used (m.hd h) = (m.hd h).at_ + 1 := by unfold used; rw [if_neg hc]
        cases es : (m.hd h).seen with
        | none =>
          simp only
          unfold M.read
          rw [if_neg (by simp)]
          refine self rfl rfl rfl ⟨hx.said, hx.at_, fun e => absurd (hd.symm.trans e) (by simp), hx.cell, fun s e => ?_, hx.follow, fun v s _ _ => (by show 1 ≤ (m.hd h).cell; omega), fun s e _ => absurd (hd.symm.trans e) (by simp), fun e => absurd (hd.symm.trans e) (by simp)⟩
          cases e
          exact g.top
        | some s =>
          simp only
          unfold M.push
          cases ef : (m.hd h).follow with
          | none =>
            simp only
            refine g.turned (m1 := { m with links := m.links.set ((m.hd h).cell - 1) s.1 }) hl rfl rfl rfl (by simp [g.ll]) (Nat.le_refl _) (Nat.le_refl _) (Nat.le_refl _) (Nat.le_refl _) ?_ g.fr g.top (mem_set_le g.links (hx.seen s es))
            exact ⟨hx.said, hx.at_, hx.fin, hx.cell, hx.seen, fun f e => (by cases e; exact hx.seen s es), hx.pushC, hx.popC, hx.popS⟩
          | some f =>
            simp only
            cases hf : m.fits h with
            | true =>
              rw [if_pos rfl]
              refine g.turned (m1 := m.exchd h (m.hd h).cell) (x := (m.hd h).ended .done) hl rfl rfl rfl g.ll (Nat.le_refl _) ?_ ?_ ?_ (hx.ended hd _) g.fr hx.cell g.links
              · rw [used_ended]
                show m.worths.length + _ ≤ m.worths.length + _
                omega
              · show m.freed.length + _ ≤ m.freed.length + ((m.hd h).at_ + 1)
                omega
              · rw [decd_ended, dn (m.hd h) rfl]
                show (m.ends ++ [_]).length + _ ≤ _
                rw [List.length_append]
                simp only [List.length_singleton]
                omega
            | false =>
              rw [if_neg (by simp)]
              exact self rfl rfl (by rw [dn (m.hd h).forgot rfl, dn (m.hd h) rfl]; rfl) (hx.forgot fun e => absurd (hd.symm.trans e) (by simp))
    | pop =>
      simp only
      cases es : (m.hd h).seen with
      | none =>
        have hc : (m.hd h).cell = 0 := by
          cases Nat.eq_zero_or_pos (m.hd h).cell with
          | inl z => exact z
          | inr z => exact absurd es (hx.popS hd (by omega))
        simp only
        unfold M.read
        by_cases ht : m.top = 0
        · rw [if_pos ⟨ht, rfl⟩]
          have u0 : used (m.hd h) = (m.hd h).at_ := by unfold used; rw [if_pos hc]; rfl
          have d0 : decd (m.prog h) (m.hd h) = (m.hd h).at_ := by unfold decd; rw [if_neg (by simp [hc])]; rfl
          refine g.turned (m1 := { m with ends := m.ends ++ [(h, (m.hd h).at_)] }) (x := (m.hd h).ended .non) hl rfl rfl rfl g.ll (Nat.le_refl _) ?_ ?_ ?_ (hx.ended hd _) g.fr g.top g.links
          · rw [used_ended]
            simp only
            omega
          · show m.freed.length + _ ≤ m.freed.length + ((m.hd h).at_ + 1)
            omega
          · rw [decd_ended]
            simp only [List.length_append, List.length_singleton]
            omega
        · rw [if_neg (fun z => ht z.1)]
          refine self rfl rfl rfl ⟨hx.said, hx.at_, fun e => absurd (hd.symm.trans e) (by simp), hx.cell, fun s e => ?_, hx.follow, fun v s e _ => absurd (hd.symm.trans e) (by simp), fun s _ e => ?_, fun _ _ => by simp⟩
          · cases e
            exact g.top
          · cases e
            show 1 ≤ m.top
            omega
      | some s =>
        simp only
        unfold M.pop
        by_cases hc : (m.hd h).cell = 0
        · rw [if_neg (fun z => z hc)]
          have u0 : used (m.hd h) = (m.hd h).at_ := by unfold used; rw [if_pos hc]; rfl
          have d0 : decd (m.prog h) (m.hd h) = (m.hd h).at_ := by unfold decd; rw [if_neg (by simp [hc])]; rfl
          have fg : Good W (m.setH h (m.hd h).forgot) := by
            refine self rfl rfl ?_ (hx.forgot fun _ => hc)
            show decd _ _ = _
            unfold decd Hd.forgot
            rfl
          split
          · unfold M.guard
            split
            · exact self rfl rfl rfl ⟨hx.said, hx.at_, hx.fin, hx.cell, hx.seen, hx.follow, hx.pushC, hx.popC, hx.popS⟩
            · split
              · exact fg
              · exact self rfl rfl rfl ⟨hx.said, hx.at_, hx.fin, hx.cell, hx.seen, hx.follow, hx.pushC, hx.popC, hx.popS⟩
          · cases ef : (m.hd h).follow with
            | none =>
              exact self rfl rfl rfl ⟨hx.said, hx.at_, hx.fin, hx.cell, hx.seen, fun f e => (by cases e; exact getD_le g.links), hx.pushC, hx.popC, hx.popS⟩
            | some f =>
              simp only
              cases hf : m.fits h with
              | true =>
                rw [if_pos rfl]
                have h1 := hx.popC s hd es
                have h2 := hx.seen s es
                refine g.turned (m1 := { m.exchd h f with strayed := m.strayed || m.links.getD (s.1 - 1) 0 != f }) (x := { m.hd h with cell := s.1 }) hl rfl rfl rfl g.ll (Nat.le_refl _) ?_ (Nat.le_refl _) ?_ ?_ g.fr (hx.follow f ef) g.links
                · have e := used_cell (m.hd h) s.1
                  rw [if_neg (by omega)] at e
                  show m.worths.length + _ ≤ m.worths.length + used { m.hd h with cell := s.1 }
                  dsimp only
                  omega
                · have : decd (m.prog h) { m.hd h with cell := s.1 } = (m.hd h).at_ + 1 := by
                    unfold decd
                    rw [if_pos ⟨hd, by show s.1 ≠ 0; omega⟩]
                  show (m.ends ++ [_]).length + _ ≤ _
                  rw [List.length_append]
                  simp only [List.length_singleton]
                  dsimp only at this ⊢
                  omega
                · exact ⟨hx.said, hx.at_, fun e => absurd (hd.symm.trans e) (by simp), h2, hx.seen, hx.follow, fun v s e _ => absurd (hd.symm.trans e) (by simp), hx.popC, fun _ _ => by show (m.hd h).seen ≠ none; rw [es]; simp⟩
              | false =>
                rw [if_neg (by simp)]
                exact fg
        · rw [if_pos hc]
          have u1 : used (m.hd h) = (m.hd h).at_ + 1 := by unfold used; rw [if_neg hc]
          have d1 : decd (m.prog h) (m.hd h) = (m.hd h).at_ + 1 := by unfold decd; rw [if_pos ⟨hd, hc⟩]
          refine g.turned (m1 := { m with freed := m.freed ++ [(m.hd h).cell] }) (x := (m.hd h).ended _) hl rfl rfl rfl g.ll (Nat.le_refl _) ?_ ?_ ?_ (hx.ended hd _) ?_ g.top g.links
          · rw [used_ended]
            simp only
            omega
          · show (m.freed ++ [_]).length + _ ≤ m.freed.length + ((m.hd h).at_ + 1)
            rw [List.length_append]
            simp only [List.length_singleton]
            omega
          · rw [decd_ended]
            simp only
            omega
          · intro y hy
            rcases List.mem_append.mp hy with z | z
            · exact g.fr y z
            · have e : y = (m.hd h).cell := by simpa using z
              have := hx.cell
              simp only
              omega
end SS

set_option linter.all false
/-! All comes to an end: a number that each step lowers. -/
namespace SS
def rank (r : Rule) (top count h : Nat) (p : List Deed) (x : Hd) : Nat :=
  match p[x.at_]? with
  | none => 0
  | some (.push _) => if x.cell = 0 then 6 else match x.seen with
    | none => 3
    | some s => (if s = (top, count) then 0 else 3) + (if x.follow = none then 2 else 1)
  | some .pop => if x.cell ≠ 0 then 1 else match x.seen with
    | none => 6
    | some s => (if s = (top, count) then 0 else 5) + (if r.named h = true ∧ x.looked = false then (if x.mark = s.1 then 4 else 5) else if x.follow = none then 3 else 2)
theorem rank_le (r : Rule) (top count h : Nat) (p : List Deed) (x : Hd) : rank r top count h p x ≤ 10 := by
  unfold rank
  split
  · omega
  · split
    · omega
    · split
      · omega
      · split <;> split <;> omega
  · split
    · omega
    · split
      · omega
      · split <;> split <;> (try split) <;> omega
def M.rk (m : M) (i : Nat) : Nat := rank m.rule m.top m.count i (m.prog i) (m.hd i)
def M.mE (m : M) : Nat := sumTo (fun i => (m.prog i).length - decd (m.prog i) (m.hd i)) m.hands.length
def M.mR (m : M) : Nat := sumTo (fun i => (m.prog i).length - (m.hd i).at_) m.hands.length
def M.mS (m : M) : Nat := sumTo m.rk m.hands.length
def M.mu (m : M) : Nat := 40 * m.mE + 10 * m.mR + m.mS

/-! what a step does to one hand, and to the rest -/
theorem step_progs (m : M) (h : Nat) : (m.step h).progs = m.progs ∧ (m.step h).rule = m.rule ∧ (m.step h).hands.length = m.hands.length ∧ ∀ i, i ≠ h → (m.step h).hd i = m.hd i := by
  have key : ∀ (m1 : M) (x : Hd), m1.progs = m.progs → m1.rule = m.rule → m1.hands = m.hands → (m1.setH h x).progs = m.progs ∧ (m1.setH h x).rule = m.rule ∧ (m1.setH h x).hands.length = m.hands.length ∧ ∀ i, i ≠ h → (m1.setH h x).hd i = m.hd i := by
    intro m1 x e1 e2 e3
    refine ⟨e1, e2, by rw [M.setH_len, e3], fun i ne => ?_⟩
    unfold M.hd M.setH
    simp only [List.getD_eq_getElem?_getD, List.getElem?_set, if_neg (Ne.symm ne), e3]
  have self : m.progs = m.progs ∧ m.rule = m.rule ∧ m.hands.length = m.hands.length ∧ ∀ i, i ≠ h → m.hd i = m.hd i := ⟨rfl, rfl, rfl, fun _ _ => rfl⟩
  unfold M.step M.turn
  split
  · exact self
  · split
    · cases hp : pick m.rule m.marked m.freed with
      | some c =>
        rw [taken_some hp]
        exact key _ _ rfl rfl rfl
      | none =>
        rw [taken_none hp]
        exact key _ _ rfl rfl rfl
    · split
      · unfold M.read
        split <;> exact key _ _ rfl rfl rfl
      · unfold M.push
        split
        · exact key _ _ rfl rfl rfl
        · split <;> exact key _ _ rfl rfl rfl
  · split
    · unfold M.read
      split <;> exact key _ _ rfl rfl rfl
    · unfold M.pop M.guard
      split
      · exact key _ _ rfl rfl rfl
      · split
        · split
          · exact key _ _ rfl rfl rfl
          · split <;> exact key _ _ rfl rfl rfl
        · split
          · exact key _ _ rfl rfl rfl
          · split <;> exact key _ _ rfl rfl rfl
theorem step_prog (m : M) (h i : Nat) : (m.step h).prog i = m.prog i := by unfold M.prog; rw [(step_progs m h).1]

theorem sumTo_lt {f g : Nat → Nat} {n k : Nat} (hk : k < n) (h : ∀ i, i < n → i ≠ k → f i = g i) (l : f k < g k) : sumTo f n < sumTo g n := by
  have := sumTo_set hk h
  omega
theorem sumTo_same {f g : Nat → Nat} {n k : Nat} (hk : k < n) (h : ∀ i, i < n → i ≠ k → f i = g i) (l : f k = g k) : sumTo f n = sumTo g n := by
  have := sumTo_set hk h
  omega
theorem mS_le (m : M) : m.mS ≤ 10 * m.hands.length := by
  have : m.mS ≤ sumTo (fun _ => 10) m.hands.length := sumTo_le fun i _ => rank_le ..
  rw [sumTo_const] at this
  omega

/-- the three ways in which a step goes down -/
inductive Down (m m' : M) (h : Nat) : Prop where
  | decides (h1 : decd (m.prog h) (m'.hd h) = decd (m.prog h) (m.hd h) + 1) (h2 : (m.hd h).at_ ≤ (m'.hd h).at_) (h3 : decd (m.prog h) (m.hd h) < (m.prog h).length)
  | ends (h1 : decd (m.prog h) (m'.hd h) = decd (m.prog h) (m.hd h)) (h2 : (m'.hd h).at_ = (m.hd h).at_ + 1) (h3 : (m.hd h).at_ < (m.prog h).length) (t : m'.top = m.top) (c : m'.count = m.count) (r : m.rk h = 1) (r' : rank m.rule m.top m.count h (m.prog h) (m'.hd h) ≤ 6)
  | goes (h1 : decd (m.prog h) (m'.hd h) = decd (m.prog h) (m.hd h)) (h2 : (m'.hd h).at_ = (m.hd h).at_) (t : m'.top = m.top) (c : m'.count = m.count) (r : rank m.rule m.top m.count h (m.prog h) (m'.hd h) < m.rk h)
theorem Down.mu {m : M} {h : Nat} (d : Down m (m.step h) h) (hl : h < m.hands.length) (h3 : m.hands.length ≤ 3) : (m.step h).mu < m.mu := by
  obtain ⟨e1, e2, e3, e4⟩ := step_progs m h
  have ep := step_prog m h
  have hs := mS_le (m.step h)
  rw [e3] at hs
  cases d with
  | decides a b c =>
    have E : (m.step h).mE < m.mE := by
      unfold M.mE
      rw [e3]
      refine sumTo_lt hl (fun i _ ne => by rw [ep, e4 i ne]) ?_
      simp only [ep]
      omega
    have Rr : (m.step h).mR ≤ m.mR := by
      unfold M.mR
      rw [e3]
      refine sumTo_le fun i _ => ?_
      rw [ep]
      by_cases e : i = h
      · subst e
        omega
      · rw [e4 i e]
        exact Nat.le_refl _
    unfold M.mu
    omega
  | ends a b c t k r r' =>
    have E : (m.step h).mE = m.mE := by
      unfold M.mE
      rw [e3]
      refine sumTo_same hl (fun i _ ne => by rw [ep, e4 i ne]) ?_
      simp only [ep]
      omega
    have Rr : (m.step h).mR < m.mR := by
      unfold M.mR
      rw [e3]
      refine sumTo_lt hl (fun i _ ne => by rw [ep, e4 i ne]) ?_
      simp only [ep]
      omega
    have S := sumTo_set (f := (m.step h).rk) (g := m.rk) hl fun i _ ne => by
      unfold M.rk
      rw [ep, e4 i ne, t, k, e2]
    have r2 : (m.step h).rk h ≤ 6 := by
      unfold M.rk
      rw [ep, t, k, e2]
      exact r'
    unfold M.mu M.mS
    rw [e3]
    omega
  | goes a b t k r =>
    have E : (m.step h).mE = m.mE := by
      unfold M.mE
      rw [e3]
      refine sumTo_same hl (fun i _ ne => by rw [ep, e4 i ne]) ?_
      simp only [ep]
      omega
    have Rr : (m.step h).mR = m.mR := by
      unfold M.mR
      rw [e3]
      refine sumTo_same hl (fun i _ ne => by rw [ep, e4 i ne]) ?_
      simp only [ep]
      omega
    have S : (m.step h).mS < m.mS := by
      unfold M.mS
      rw [e3]
      refine sumTo_lt hl (fun i _ ne => ?_) ?_
      · unfold M.rk
        rw [ep, e4 i ne, t, k, e2]
      · unfold M.rk
        rw [ep, t, k, e2]
        exact r
    unfold M.mu
    omega
theorem Down.goes' {m m1 : M} {h : Nat} {x : Hd} (hl : h < m.hands.length) (e : m1.hands = m.hands) (h1 : decd (m.prog h) x = decd (m.prog h) (m.hd h)) (h2 : x.at_ = (m.hd h).at_) (t : m1.top = m.top) (c : m1.count = m.count)
    (r : rank m.rule m.top m.count h (m.prog h) x < m.rk h) : Down m (m1.setH h x) h := by
  have hx : (m1.setH h x).hd h = x := M.setH_hd (by rw [e]; exact hl)
  exact .goes (by rw [hx]; exact h1) (by rw [hx]; exact h2) t c (by rw [hx]; exact r)
theorem Down.decides' {m m1 : M} {h : Nat} {x : Hd} (hl : h < m.hands.length) (e : m1.hands = m.hands) (h1 : decd (m.prog h) x = decd (m.prog h) (m.hd h) + 1) (h2 : (m.hd h).at_ ≤ x.at_) (h3 : decd (m.prog h) (m.hd h) < (m.prog h).length) : Down m (m1.setH h x) h := by
  have hx : (m1.setH h x).hd h = x := M.setH_hd (by rw [e]; exact hl)
  exact .decides (by rw [hx]; exact h1) (by rw [hx]; exact h2) h3
theorem Down.ends' {m m1 : M} {h : Nat} {x : Hd} (hl : h < m.hands.length) (e : m1.hands = m.hands) (h1 : decd (m.prog h) x = decd (m.prog h) (m.hd h)) (h2 : x.at_ = (m.hd h).at_ + 1) (h3 : (m.hd h).at_ < (m.prog h).length) (t : m1.top = m.top) (c : m1.count = m.count)
    (r : m.rk h = 1) (r' : rank m.rule m.top m.count h (m.prog h) x ≤ 6) : Down m (m1.setH h x) h := by
  have hx : (m1.setH h x).hd h = x := M.setH_hd (by rw [e]; exact hl)
  exact .ends (by rw [hx]; exact h1) (by rw [hx]; exact h2) h3 t c r (by rw [hx]; exact r')
theorem rank_new {r : Rule} {top count h : Nat} {p : List Deed} {x : Hd} {a : Ans} : rank r top count h p (x.ended a) ≤ 6 := by
  unfold rank Hd.ended
  simp only
  split
  · omega
  · simp
  · simp
theorem down {m : M} {h : Nat} (hl : h < m.hands.length) (hfr : ∀ c ∈ m.freed, 1 ≤ c) (hr : m.rests h = false) (hx : HOk m.worths.length (m.prog h) (m.hd h)) : Down m (m.step h) h := by
  have ne : (m.hd h).at_ ≠ (m.prog h).length := by
    unfold M.rests at hr
    simpa using hr
  have hat : (m.hd h).at_ < (m.prog h).length := by have := hx.at_; omega
  have hd : (m.prog h)[(m.hd h).at_]? = some (m.prog h)[(m.hd h).at_] := List.getElem?_eq_getElem hat
  generalize (m.prog h)[(m.hd h).at_] = d at hd
  have put : ∀ (m1 : M) (x : Hd), m1.hands = m.hands → (m1.setH h x).hd h = x := fun m1 x e => M.setH_hd (by rw [e]; exact hl)
  unfold M.step M.turn
  rw [hd]
  cases d with
  | push v =>
    have dn : ∀ x : Hd, x.at_ = (m.hd h).at_ → decd (m.prog h) x = x.at_ := fun x e => by
      unfold decd
      rw [e, hd]
      simp
    simp only
    by_cases hc : (m.hd h).cell = 0
    · rw [if_pos hc]
      have goal : ∀ (m1 : M) (c : Nat), c ≠ 0 → m1.hands = m.hands → m1.top = m.top → m1.count = m.count → Down m (m1.setH h { m.hd h with cell := c }) h := by
        intro m1 c hc' e1 e2 e3
        refine .goes' hl e1 ?_ ?_ e2 e3 ?_
        · exact (dn { m.hd h with cell := c } rfl).trans (dn (m.hd h) rfl).symm
        · rfl
        · unfold M.rk rank
          simp only [hd, if_pos hc, if_neg hc']
          split
          · omega
          · split <;> split <;> omega
      cases hp : pick m.rule m.marked m.freed with
      | some c =>
        rw [taken_some hp]
        by_cases c0 : c = 0
        · have := hfr c (pick_mem hp)
          omega
        · exact goal _ c c0 rfl rfl rfl
      | none =>
        rw [taken_none hp]
        exact goal _ _ (by omega) rfl rfl rfl
    · rw [if_neg hc]
      cases es : (m.hd h).seen with
      | none =>
        simp only
        unfold M.read
        rw [if_neg (by simp)]
        refine .goes' hl rfl ?_ ?_ rfl rfl ?_
        · exact (dn _ rfl).trans (dn (m.hd h) rfl).symm
        · rfl
        · unfold M.rk rank
          simp only [hd, if_neg hc, es, if_true]
          split <;> omega
      | some s =>
        simp only
        unfold M.push
        cases ef : (m.hd h).follow with
        | none =>
          simp only
          refine .goes' hl rfl ?_ ?_ rfl rfl ?_
          · exact (dn _ rfl).trans (dn (m.hd h) rfl).symm
          · rfl
          · unfold M.rk rank
            simp only [hd, if_neg hc, es, ef, if_true]
            simp
        | some f =>
          simp only
          cases hf : m.fits h with
          | true =>
            rw [if_pos rfl]
            refine .decides' hl rfl ?_ ?_ ?_
            · rw [decd_ended, dn (m.hd h) rfl]
              rfl
            · show _ ≤ (m.hd h).at_ + 1
              omega
            · rw [dn (m.hd h) rfl]
              exact hat
          | false =>
            rw [if_neg (by simp)]
            refine .goes' hl rfl ?_ ?_ rfl rfl ?_
            · exact (dn (m.hd h).forgot rfl).trans (dn (m.hd h) rfl).symm
            · rfl
            · have ns : ¬ (s = (m.top, m.count)) := fun e => by
                unfold M.fits at hf
                rw [es, e] at hf
                simp at hf
              unfold M.rk rank Hd.forgot
              simp only [hd, if_neg hc, es, ef, if_neg ns]
              simp
  | pop =>
    simp only
    cases es : (m.hd h).seen with
    | none =>
      have hc : (m.hd h).cell = 0 := by
        cases Nat.eq_zero_or_pos (m.hd h).cell with
        | inl z => exact z
        | inr z => exact absurd es (hx.popS hd (by omega))
      have d0 : decd (m.prog h) (m.hd h) = (m.hd h).at_ := by unfold decd; rw [if_neg (by simp [hc])]; rfl
      simp only
      unfold M.read
      by_cases ht : m.top = 0
      · rw [if_pos ⟨ht, rfl⟩]
        refine .decides' hl rfl ?_ ?_ ?_
        · rw [decd_ended, d0]
          rfl
        · show _ ≤ (m.hd h).at_ + 1
          omega
        · rw [d0]
          exact hat
      · rw [if_neg (fun z => ht z.1)]
        refine .goes' hl rfl ?_ ?_ rfl rfl ?_
        · rfl
        · rfl
        · unfold M.rk rank
          simp only [hd, hc, es, if_true, ne_eq, not_true_eq_false, if_false]
          split <;> (try split) <;> omega
    | some s =>
      simp only
      unfold M.pop
      by_cases hc : (m.hd h).cell = 0
      · rw [if_neg (fun z => z hc)]
        have d0 : decd (m.prog h) (m.hd h) = (m.hd h).at_ := by unfold decd; rw [if_neg (by simp [hc])]; rfl
        have fg : (¬ s = (m.top, m.count)) → Down m (m.setH h (m.hd h).forgot) h := fun ns => by
          refine .goes' hl rfl ?_ ?_ rfl rfl ?_
          · rfl
          · rfl
          · unfold M.rk rank Hd.forgot
            simp only [hd, hc, es, if_neg ns, ne_eq, not_true_eq_false, if_false]
            split <;> (try split) <;> omega
        split
        · rename_i hn
          unfold M.guard
          split
          · rename_i hm
            refine .goes' hl rfl ?_ ?_ rfl rfl ?_
            · rfl
            · rfl
            · unfold M.rk rank
              simp only [hd, hc, es, if_pos hn, if_neg hm, ne_eq, not_true_eq_false, if_false, if_true]
              omega
          · rename_i hm
            split
            · rename_i ht
              refine fg fun e => ht ?_
              rw [e]
            · refine .goes' hl rfl ?_ ?_ rfl rfl ?_
              · rfl
              · rfl
              · have hm' : (m.hd h).mark = s.1 := by simpa using hm
                unfold M.rk rank
                simp only [hd, hc, es, if_pos hn, if_pos hm', ne_eq, not_true_eq_false, if_false]
                simp only [Bool.true_eq_false, and_false, if_false]
                split <;> split <;> omega
        · rename_i hn
          cases ef : (m.hd h).follow with
          | none =>
            simp only
            refine .goes' hl rfl ?_ ?_ rfl rfl ?_
            · rfl
            · rfl
            · unfold M.rk rank
              simp only [hd, hc, es, ef, if_neg hn, ne_eq, not_true_eq_false, if_false, if_true]
              simp
          | some f =>
            simp only
            cases hf : m.fits h with
            | true =>
              rw [if_pos rfl]
              have h1 := hx.popC s hd es
              refine .decides' hl rfl ?_ ?_ ?_
              · rw [d0]
                unfold decd
                rw [if_pos ⟨hd, by show s.1 ≠ 0; omega⟩]
              · exact Nat.le_refl _
              · rw [d0]
                exact hat
            | false =>
              rw [if_neg (by simp)]
              exact fg fun e => by
                unfold M.fits at hf
                rw [es, e] at hf
                simp at hf
      · rw [if_pos hc]
        have d1 : decd (m.prog h) (m.hd h) = (m.hd h).at_ + 1 := by unfold decd; rw [if_pos ⟨hd, hc⟩]
        refine .ends' hl rfl ?_ ?_ hat rfl rfl ?_ ?_
        · rw [decd_ended, d1]
          rfl
        · rfl
        · unfold M.rk rank
          simp only [hd, if_pos hc]
        · exact rank_new

theorem Good.mu_lt {W : Nat} {m : M} {h : Nat} (g : Good W m) (hl : h < m.hands.length) (h3 : m.hands.length ≤ 3) (hr : m.rests h = false) : (m.step h).mu < m.mu :=
  (down hl (fun c hc => (g.fr c hc).1) hr (g.hand h hl)).mu hl h3
theorem step_rests {m : M} {h : Nat} (hr : m.rests h = true) : m.turn h = (.rests, m) := by
  unfold M.rests at hr
  have : (m.hd h).at_ = (m.prog h).length := eq_of_beq hr
  unfold M.turn
  rw [this, List.getElem?_eq_none (Nat.le_refl _)]
theorem Good.mu_le {W : Nat} {m : M} {h : Nat} (g : Good W m) (hl : h < m.hands.length) (h3 : m.hands.length ≤ 3) : (m.step h).mu ≤ m.mu := by
  cases hr : m.rests h with
  | true =>
    unfold M.step
    rw [step_rests hr]
    exact Nat.le_refl _
  | false => exact Nat.le_of_lt (g.mu_lt hl h3 hr)
/-- hands that play these programs by this rule -/
structure Fine (ps : List (List Deed)) (r : Rule) (m : M) : Prop where
  good : Good 6 m
  progs : m.progs = ps
  rule : m.rule = r
  plen : ps.length ≤ 3
  dlen : ∀ p ∈ ps, p.length ≤ 4
theorem Fine.hn {ps : List (List Deed)} {r : Rule} {m : M} (f : Fine ps r m) : m.hands.length = ps.length := by rw [← f.good.ps, f.progs]
theorem Fine.step {ps : List (List Deed)} {r : Rule} {m : M} {h : Nat} (f : Fine ps r m) (hl : h < ps.length) : Fine ps r (m.step h) := by
  obtain ⟨e1, e2, e3, e4⟩ := step_progs m h
  exact ⟨f.good.turn (by rw [f.hn]; exact hl), e1.trans f.progs, e2.trans f.rule, f.plen, f.dlen⟩
theorem getD_len {ps : List (List Deed)} (h : ∀ p ∈ ps, p.length ≤ 4) (i : Nat) : (ps.getD i []).length ≤ 4 := by
  rw [List.getD_eq_getElem?_getD]
  cases e : ps[i]? with
  | none => exact Nat.zero_le _
  | some p => exact h p (List.mem_of_getElem? e)
theorem Fine.bound {ps : List (List Deed)} {r : Rule} {m : M} (f : Fine ps r m) (g : Nat → Nat) (hg : ∀ i, i < m.hands.length → g i ≤ (m.prog i).length) : sumTo g m.hands.length ≤ 12 := by
  have h1 : sumTo g m.hands.length ≤ sumTo (fun _ => 4) m.hands.length := sumTo_le fun i hi => Nat.le_trans (hg i hi) (by
    unfold M.prog
    rw [f.progs]
    exact getD_len f.dlen i)
  rw [sumTo_const] at h1
  have := f.hn
  have := f.plen
  omega
theorem Fine.hand {ps : List (List Deed)} {r : Rule} {m : M} (f : Fine ps r m) (i : Nat) : HOk m.worths.length (m.prog i) (m.hd i) := by
  by_cases hi : i < m.hands.length
  · exact f.good.hand i hi
  · have e1 : m.hd i = {} := by
      unfold M.hd
      rw [List.getD_eq_getElem?_getD, List.getElem?_eq_none (by omega)]
      rfl
    have e2 : m.prog i = [] := by
      unfold M.prog
      rw [List.getD_eq_getElem?_getD, List.getElem?_eq_none (by rw [f.good.ps]; omega)]
      rfl
    rw [e1, e2]
    exact ⟨rfl, Nat.le_refl _, fun _ => ⟨rfl, rfl⟩, Nat.zero_le _, fun s e => (by cases e), fun s e => (by cases e), fun v s e => (by cases e), fun s e => (by cases e), fun e => (by cases e)⟩
theorem Fine.wn {ps : List (List Deed)} {r : Rule} {m : M} (f : Fine ps r m) : m.worths.length ≤ 18 := by
  have h1 := f.good.wl
  have h2 := f.bound (fun i => used (m.hd i)) fun i _ => (f.hand i).used_le
  omega
theorem Fine.wf {ps : List (List Deed)} {r : Rule} {m : M} (f : Fine ps r m) : Wf m := by
  have g := f.good
  have hn := f.hn
  have h3 := f.plen
  have hw := f.wn
  have h4 := f.bound (fun i => (m.hd i).at_) fun i _ => (f.hand i).at_
  have h5 := f.bound (fun i => decd (m.prog i) (m.hd i)) fun i _ => (f.hand i).dec_le
  have hf := g.fl
  have he := g.el
  refine ⟨g.ps, by omega, by omega, g.ll, by omega, by omega, g.count, fun h => ?_, fun h => (f.hand h).at_, g.fr, fun h => (f.hand h).cell, fun h => (f.hand h).pushC, fun h s e1 e2 => ⟨(f.hand h).popC s e1 e2, (f.hand h).seen s e2⟩⟩
  have h6 := (f.hand h).said
  have h7 := (f.hand h).at_
  have h8 : (m.prog h).length ≤ 4 := by
    unfold M.prog
    rw [f.progs]
    exact getD_len f.dlen h
  omega
theorem Fine.pile {ps : List (List Deed)} {r : Rule} {m : M} (f : Fine ps r m) : PileOk m := by
  have g := f.good
  have hw := f.wn
  exact ⟨by omega, g.ll, by rw [g.ll]; exact g.top, fun c hc => by rw [g.ll]; exact g.links c hc⟩
theorem Fine.begin_ {values : List Int} {ps : List (List Deed)} {r : Rule} (ok : okIn values ps r) : Fine ps r (M.begin_ values ps r) := by
  have hd : ∀ i, (M.begin_ values ps r).hd i = {} := fun i => by
    unfold M.hd M.begin_
    simp only [List.getD_eq_getElem?_getD, List.getElem?_map]
    cases ps[i]? <;> rfl
  refine ⟨⟨by simp [M.begin_], by simp [M.begin_], ?_, by simp [M.begin_], by simp [M.begin_], ?_, fun i _ => ?_, by simp [M.begin_], by simp [M.begin_], ?_⟩, rfl, rfl, ok.plen.2, ok.dlen⟩
  · have := ok.vlen
    show values.length ≤ _
    omega
  · intro k hk
    have e : r = .counts k := hk
    have := ok.rule
    rw [e] at this
    exact this.1
  · rw [hd]
    exact ⟨rfl, Nat.zero_le _, fun _ => ⟨rfl, rfl⟩, Nat.zero_le _, fun s e => (by cases e), fun s e => (by cases e), fun v s _ e => (by cases e), fun s _ e => (by cases e), fun _ e => absurd rfl e⟩
  · intro c hc
    have : c ∈ List.range values.length := hc
    have := List.mem_range.mp this
    show c ≤ values.length
    omega
theorem Fine.run {ps : List (List Deed)} {r : Rule} : ∀ {w : List Nat} {m : M}, Fine ps r m → (∀ h ∈ w, h < ps.length) → Fine ps r (m.run w)
  | [], m, f, _ => f
  | h :: w, m, f, hw => Fine.run (w := w) (f.step (hw h List.mem_cons_self)) fun x hx => hw x (List.mem_cons_of_mem _ hx)

/-! ### whole weavings; deeds one after another -/
def M.tells (m : M) : List Nat → List Tell
  | [] => []
  | h :: w => (m.turn h).1 :: (m.step h).tells w
def M.round (m : M) : M := m.run (List.range m.hands.length)
def M.finish : Nat → M → M
  | 0, m => m
  | n + 1, m => if m.isDone = true then m else M.finish n m.round
def wholeM (values : List Int) (ps : List (List Deed)) (r : Rule) (w : List Nat) : M := M.finish 1000 ((M.begin_ values ps r).run w)
def serialStep (z : List Ans × List Int) (d : Deed) : List Ans × List Int :=
  match d with
  | .push v => (z.1 ++ [.done], z.2 ++ [v])
  | .pop => match z.2.getLast? with
    | none => (z.1 ++ [.non], z.2)
    | some v => (z.1 ++ [.val v], z.2.dropLast)
def serial (values : List Int) (ds : List Deed) : List Ans × List Int := ds.foldl serialStep ([], values)
theorem serial_len : ∀ (ds : List Deed) (z : List Ans × List Int), (ds.foldl serialStep z).1.length = z.1.length + ds.length ∧ (ds.foldl serialStep z).2.length ≤ z.2.length + ds.length
  | [], z => ⟨rfl, Nat.le_refl _⟩
  | d :: ds, z => by
    obtain ⟨h1, h2⟩ := serial_len ds (serialStep z d)
    have e : (serialStep z d).1.length = z.1.length + 1 ∧ (serialStep z d).2.length ≤ z.2.length + 1 := by
      unfold serialStep
      cases d with
      | push v => simp
      | pop =>
        cases z.2.getLast? with
        | none => simp
        | some v => simp; omega
    simp only [List.foldl_cons, List.length_cons]
    omega
theorem run_append (m : M) (a b : List Nat) : m.run (a ++ b) = (m.run a).run b := List.foldl_append ..
theorem run_snoc (m : M) (a : List Nat) (h : Nat) : m.run (a ++ [h]) = (m.run a).step h := by rw [run_append]; rfl
theorem tells_snoc (h : Nat) : ∀ (a : List Nat) (m : M), m.tells (a ++ [h]) = m.tells a ++ [((m.run a).turn h).1]
  | [], m => rfl
  | x :: a, m => congrArg ((m.turn x).1 :: ·) (tells_snoc h a (m.step x))
theorem tells_len : ∀ (a : List Nat) (m : M), (m.tells a).length = a.length
  | [], m => rfl
  | x :: a, m => congrArg (· + 1) (tells_len a (m.step x))
theorem Fine.run_mu {ps : List (List Deed)} {r : Rule} : ∀ {w : List Nat} {m : M}, Fine ps r m → (∀ h ∈ w, h < ps.length) → (m.run w).mu ≤ m.mu
  | [], m, f, _ => Nat.le_refl _
  | h :: w, m, f, hw => by
    have h1 := hw h List.mem_cons_self
    have := Fine.run_mu (w := w) (f.step h1) fun x hx => hw x (List.mem_cons_of_mem _ hx)
    have := f.good.mu_le (h := h) (by rw [f.hn]; exact h1) (by rw [f.hn]; exact f.plen)
    show ((m.step h).run w).mu ≤ _
    omega
theorem Fine.run_lt {ps : List (List Deed)} {r : Rule} : ∀ {w : List Nat} {m : M}, Fine ps r m → (∀ h ∈ w, h < ps.length) → (∃ h ∈ w, m.rests h = false) → (m.run w).mu < m.mu
  | [], m, f, _, ⟨h, hh, _⟩ => by cases hh
  | h :: w, m, f, hw, ⟨x, hx, hr⟩ => by
    have h1 := hw h List.mem_cons_self
    have hw' : ∀ x ∈ w, x < ps.length := fun x hx => hw x (List.mem_cons_of_mem _ hx)
    have l3 : m.hands.length ≤ 3 := by rw [f.hn]; exact f.plen
    have hl : h < m.hands.length := by rw [f.hn]; exact h1
    show ((m.step h).run w).mu < _
    have a := Fine.run_mu (f.step h1) hw'
    cases e : m.rests h with
    | false =>
      have := f.good.mu_lt hl l3 e
      omega
    | true =>
      have ne : x ≠ h := fun z => by rw [z, e] at hr; cases hr
      have hx' : x ∈ w := by
        rcases List.mem_cons.mp hx with z | z
        · exact absurd z ne
        · exact z
      have es : m.step h = m := by
        unfold M.step
        rw [step_rests e]
      rw [es]
      exact Fine.run_lt f hw' ⟨x, hx', hr⟩
theorem Fine.round_lt {ps : List (List Deed)} {r : Rule} {m : M} (f : Fine ps r m) (h : m.isDone = false) : m.round.mu < m.mu := by
  refine f.run_lt (fun h hh => by rw [← f.hn]; exact List.mem_range.mp hh) ?_
  unfold M.isDone at h
  have : ¬ (List.range m.hands.length).all m.rests = true := by rw [h]; exact Bool.false_ne_true
  rw [List.all_eq_true] at this
  apply Classical.byContradiction
  intro n
  refine this fun x hx => ?_
  cases e : m.rests x with
  | true => rfl
  | false => exact absurd ⟨x, hx, e⟩ n
theorem Fine.round {ps : List (List Deed)} {r : Rule} {m : M} (f : Fine ps r m) : Fine ps r m.round := f.run fun h hh => by rw [← f.hn]; exact List.mem_range.mp hh
theorem Fine.mu_le {ps : List (List Deed)} {r : Rule} {m : M} (f : Fine ps r m) : m.mu < 1000 := by
  have h1 := f.bound (fun i => (m.prog i).length - decd (m.prog i) (m.hd i)) fun i _ => Nat.sub_le _ _
  have h2 := f.bound (fun i => (m.prog i).length - (m.hd i).at_) fun i _ => Nat.sub_le _ _
  have h3 := mS_le m
  have h4 := f.hn
  have h5 := f.plen
  unfold M.mu M.mE M.mR
  omega
theorem finish_done {m : M} (h : m.isDone = true) : ∀ n, M.finish n m = m
  | 0 => rfl
  | n + 1 => by
    unfold M.finish
    rw [if_pos h]
theorem finish_step {m : M} {n : Nat} (h : m.isDone = false) : M.finish (n + 1) m = M.finish n m.round := by
  conv => lhs; unfold M.finish
  rw [h, if_neg Bool.false_ne_true]
theorem Fine.finish {ps : List (List Deed)} {r : Rule} : ∀ {n : Nat} {m : M}, Fine ps r m → m.mu < n → Fine ps r (M.finish n m) ∧ (M.finish n m).isDone = true
  | 0, m, f, h => by omega
  | n + 1, m, f, h => by
    cases e : m.isDone with
    | true =>
      rw [finish_done e]
      exact ⟨f, e⟩
    | false =>
      rw [finish_step e]
      have := f.round_lt e
      exact Fine.finish f.round (by omega)
end SS

set_option Elab.async false
set_option linter.all false
set_option maxRecDepth 100000
set_option maxHeartbeats 4000000
namespace SS
open PySem L2

/-! ### readings by short names -/
abbrev rAddI : R2 := rI0 fun i j => .int (i + j)
abbrev rSubI : R2 := rI0 fun i j => .int (i - j)
abbrev rMulI : R2 := rI CMul fun i j => .int (i * j)
abbrev rModI : R2 := rI (fun _ j => 0 < j) fun i j => .int (i % j)
abbrev rFdivI : R2 := rI CDiv fun i j => .int (i / j)
abbrev rPowI : R2 := rI CPow fun i j => .int (i ^ j.toNat)
abbrev rLtI : R2 := rI0 fun i j => .bl (decide (i < j))
abbrev rLeI : R2 := rI0 fun i j => .bl (decide (i ≤ j))
abbrev rGtI : R2 := rI0 fun i j => .bl (decide (j < i))
abbrev rGeI : R2 := rI0 fun i j => .bl (decide (j ≤ i))
abbrev rNegI : V → Hp → VK → Prop := rU fun i => .int (-i)
abbrev rIsN : R2 := fun x y H Q => y = .non ∧ Q (.bl (decide (x = .non))) H
abbrev rNotN : R2 := fun x y H Q => y = .non ∧ Q (.bl (!decide (x = .non))) H
abbrev rLen1 (K : PySem.W.Frag) : List V → Hp → VK → Prop := fun xs H Q => ∃ p ys, xs = [.ref p] ∧ (SqL K H p ys ∨ SqT K H p ys) ∧ Q (.int ys.length) H
abbrev rListOf (K : PySem.W.Frag) : List V → Hp → VK → Prop := fun xs H Q => ∃ p ys, xs = [.ref p] ∧ (SqL K H p ys ∨ SqT K H p ys) ∧ ∀ l, H l = none → Q (.ref l) (upd H l (.lst ys))
abbrev rTupleOf (K : PySem.W.Frag) : List V → Hp → VK → Prop := fun xs H Q => ∃ p ys, xs = [.ref p] ∧ ((SqL K H p ys ∧ ∀ l, H l = none → Q (.ref l) (upd H l (.tup ys))) ∨ (SqT K H p ys ∧ Q (.ref p) H))
abbrev rInt1 : List V → Hp → VK → Prop := fun xs H Q => (∃ i, xs = [.int i] ∧ Q (.int i) H) ∨ ∃ k, xs = [.bl k] ∧ Q (.int (if k then 1 else 0)) H
abbrev rMax2 : List V → Hp → VK → Prop := fun xs H Q => ∃ i j, xs = [.int i, .int j] ∧ Q (.int (if j > i then j else i)) H
abbrev rMin2 : List V → Hp → VK → Prop := fun xs H Q => ∃ i j, xs = [.int i, .int j] ∧ Q (.int (if j < i then j else i)) H

/-! ### where the classes stand -/
structure Cs where
  K : PySem.W.Frag
  H : Addr
  M : Addr

/-! ### values -/
abbrev natV (n : Nat) : V := .int n
def ansV : Ans → V
  | .non => .non
  | .done => .str "done"
  | .val v => .int v
def optV : Option Nat → V
  | none => .non
  | some n => .int n
def deedVs : Deed → List V
  | .pop => [.str "pop"]
  | .push v => [.str "push", .int v]

structure HA where
  h : Addr
  dx : Addr
  prog : Addr
  said : Addr
structure MA where
  p : Addr
  dx : Addr
  rule : Addr
  worths : Addr
  links : Addr
  freed : Addr
  handsL : Addr
  ends : Addr
  hs : List HA

def hf (a : HA) (sv : V) (x : Hd) : List (Str × V) :=
  [("program", .ref a.prog), ("at", .int x.at_), ("cell", .int x.cell), ("seen", sv), ("follow", optV x.follow), ("mark", .int x.mark), ("looked", .bl x.looked), ("said", .ref a.said)]
def mf (A : MA) (m : M) : List (Str × V) :=
  [("rule", .ref A.rule), ("worths", .ref A.worths), ("links", .ref A.links), ("top", .int m.top), ("count", .int m.count), ("freed", .ref A.freed), ("hands", .ref A.handsL), ("ends", .ref A.ends), ("strayed", .bl m.strayed)]

section
variable (a : HA) (sv : V) (x : Hd) (A : MA) (m : M)
theorem hf_program : (hf a sv x).lookup ("program" : Str) = some (.ref a.prog) := by kernel_rfl
theorem hf_at : (hf a sv x).lookup ("at" : Str) = some (.int x.at_) := by kernel_rfl
theorem hf_cell : (hf a sv x).lookup ("cell" : Str) = some (.int x.cell) := by kernel_rfl
theorem hf_seen : (hf a sv x).lookup ("seen" : Str) = some sv := by kernel_rfl
theorem hf_follow : (hf a sv x).lookup ("follow" : Str) = some (optV x.follow) := by kernel_rfl
theorem hf_mark : (hf a sv x).lookup ("mark" : Str) = some (.int x.mark) := by kernel_rfl
theorem hf_looked : (hf a sv x).lookup ("looked" : Str) = some (.bl x.looked) := by kernel_rfl
theorem hf_said : (hf a sv x).lookup ("said" : Str) = some (.ref a.said) := by kernel_rfl
theorem mf_rule : (mf A m).lookup ("rule" : Str) = some (.ref A.rule) := by kernel_rfl
theorem mf_worths : (mf A m).lookup ("worths" : Str) = some (.ref A.worths) := by kernel_rfl
theorem mf_links : (mf A m).lookup ("links" : Str) = some (.ref A.links) := by kernel_rfl
theorem mf_top : (mf A m).lookup ("top" : Str) = some (.int m.top) := by kernel_rfl
theorem mf_count : (mf A m).lookup ("count" : Str) = some (.int m.count) := by kernel_rfl
theorem mf_freed : (mf A m).lookup ("freed" : Str) = some (.ref A.freed) := by kernel_rfl
theorem mf_hands : (mf A m).lookup ("hands" : Str) = some (.ref A.handsL) := by kernel_rfl
theorem mf_ends : (mf A m).lookup ("ends" : Str) = some (.ref A.ends) := by kernel_rfl
theorem mf_strayed : (mf A m).lookup ("strayed" : Str) = some (.bl m.strayed) := by kernel_rfl
theorem pf_at (n : Nat) : putF "at" (.int n) (hf a sv x) = hf a sv { x with at_ := n } := by kernel_rfl
theorem pf_cell (n : Nat) : putF "cell" (.int n) (hf a sv x) = hf a sv { x with cell := n } := by kernel_rfl
theorem pf_seen (v : V) : putF "seen" v (hf a sv x) = hf a v x := by kernel_rfl
theorem pf_follow (o : Option Nat) : putF "follow" (optV o) (hf a sv x) = hf a sv { x with follow := o } := by kernel_rfl
theorem pf_mark (n : Nat) : putF "mark" (.int n) (hf a sv x) = hf a sv { x with mark := n } := by kernel_rfl
theorem pf_looked (b : Bool) : putF "looked" (.bl b) (hf a sv x) = hf a sv { x with looked := b } := by kernel_rfl
theorem pf_top (n : Nat) : putF "top" (.int n) (mf A m) = mf A { m with top := n } := by kernel_rfl
theorem pf_count (n : Nat) : putF "count" (.int n) (mf A m) = mf A { m with count := n } := by kernel_rfl
theorem pf_strayed (b : Bool) : putF "strayed" (.bl b) (mf A m) = mf A { m with strayed := b } := by kernel_rfl
end
/-- no attribute is a method's name -/
theorem mf_no (A : MA) (m : M) : ∀ x ∈ (["need_hand", "rests", "marks", "taken", "turn", "read", "ended", "forget", "exchange", "push", "pop", "guard", "pile", "is_done", "is_stale", "answers", "marked", "order", "free", "top_now", "nexts", "pile_values", "twin", "state"] : List Str), (mf A m).lookup x = none := by
  intro x hx
  simp only [List.mem_cons, List.not_mem_nil, or_false] at hx
  rcases hx with rfl | rfl | rfl | rfl | rfl | rfl | rfl | rfl | rfl | rfl | rfl | rfl | rfl | rfl | rfl | rfl | rfl | rfl | rfl | rfl | rfl | rfl | rfl | rfl <;> kernel_rfl
end SS

set_option Elab.async false
set_option linter.all false
set_option maxRecDepth 100000
set_option maxHeartbeats 4000000
namespace SS
open PySem L2

/-! ### what evaluates to what, the heap as it stands -/
def Ev (te : TE) (s : L2.St) (H : Hp) (v : V) : Prop := ∀ Q : VK, Q v H → te s H Q
def EvT (tt : TT) (s : L2.St) (H : Hp) (b : Bool) : Prop := ∀ Q : Bool → Hp → Prop, Q b H → tt s H Q
def EvA (ta : TA) (s : L2.St) (H : Hp) (vs : List V) : Prop := ∀ Q : List V → Hp → Prop, Q vs H → ta s H Q
def EvO (to : TO) (s : L2.St) (H : Hp) (o : Option Int) : Prop := ∀ Q : Option Int → Hp → Prop, Q o H → to s H Q
section
variable {K : PySem.W.Frag} {s : L2.St} {H : Hp} {ta tb tc te : TE} {t u : TT} {x y z v : V} {i j : Int}
theorem ev_var {n : Nat} (h : s[n]? = some (some v)) : Ev (tVar n) s H v := fun _ q => ⟨v, h, q⟩
theorem ev_c : Ev (tC v) s H v := fun _ q => q
theorem ev_add (ha : Ev ta s H (.int i)) (hb : Ev tb s H (.int j)) : Ev (tOp rAddI ta tb) s H (.int (i + j)) := fun _ q => ha _ (hb _ ⟨_, _, rfl, rfl, q⟩)
theorem ev_sub (ha : Ev ta s H (.int i)) (hb : Ev tb s H (.int j)) : Ev (tOp rSubI ta tb) s H (.int (i - j)) := fun _ q => ha _ (hb _ ⟨_, _, rfl, rfl, q⟩)
theorem ev_mul (ha : Ev ta s H (.int i)) (hb : Ev tb s H (.int j)) (h : CMul i j) : Ev (tOp rMulI ta tb) s H (.int (i * j)) := fun _ q => ha _ (hb _ ⟨_, _, rfl, rfl, h, q⟩)
theorem ev_mod (ha : Ev ta s H (.int i)) (hb : Ev tb s H (.int j)) (h : 0 < j) : Ev (tOp rModI ta tb) s H (.int (i % j)) := fun _ q => ha _ (hb _ ⟨_, _, rfl, rfl, h, q⟩)
theorem ev_fdiv (ha : Ev ta s H (.int i)) (hb : Ev tb s H (.int j)) (h : CDiv i j) : Ev (tOp rFdivI ta tb) s H (.int (i / j)) := fun _ q => ha _ (hb _ ⟨_, _, rfl, rfl, h, q⟩)
theorem ev_pow (ha : Ev ta s H (.int i)) (hb : Ev tb s H (.int j)) (h : CPow i j) : Ev (tOp rPowI ta tb) s H (.int (i ^ j.toNat)) := fun _ q => ha _ (hb _ ⟨_, _, rfl, rfl, h, q⟩)
theorem ev_neg (ha : Ev ta s H (.int i)) : Ev (tUn rNegI ta) s H (.int (-i)) := fun _ q => ha _ ⟨_, rfl, q⟩
theorem ev_lt (ha : Ev ta s H (.int i)) (hb : Ev tb s H (.int j)) : Ev (tOp rLtI ta tb) s H (.bl (decide (i < j))) := fun _ q => ha _ (hb _ ⟨_, _, rfl, rfl, q⟩)
theorem ev_le (ha : Ev ta s H (.int i)) (hb : Ev tb s H (.int j)) : Ev (tOp rLeI ta tb) s H (.bl (decide (i ≤ j))) := fun _ q => ha _ (hb _ ⟨_, _, rfl, rfl, q⟩)
theorem ev_gt (ha : Ev ta s H (.int i)) (hb : Ev tb s H (.int j)) : Ev (tOp rGtI ta tb) s H (.bl (decide (j < i))) := fun _ q => ha _ (hb _ ⟨_, _, rfl, rfl, q⟩)
theorem ev_ge (ha : Ev ta s H (.int i)) (hb : Ev tb s H (.int j)) : Ev (tOp rGeI ta tb) s H (.bl (decide (j ≤ i))) := fun _ q => ha _ (hb _ ⟨_, _, rfl, rfl, q⟩)
theorem ev_eq (ha : Ev ta s H x) (hb : Ev tb s H y) (h : scal x y = true) : Ev (tOp rEq ta tb) s H (.bl (decide (x = y))) := fun _ q => ha _ (hb _ ⟨h, q⟩)
theorem ev_ne (ha : Ev ta s H x) (hb : Ev tb s H y) (h : scal x y = true) : Ev (tOp rNe ta tb) s H (.bl (!decide (x = y))) := fun _ q => ha _ (hb _ ⟨h, q⟩)
theorem ev_isN (ha : Ev ta s H x) : Ev (tOp rIsN ta (tC .non)) s H (.bl (decide (x = .non))) := fun _ q => ha _ ⟨rfl, q⟩
theorem ev_notN (ha : Ev ta s H x) : Ev (tOp rNotN ta (tC .non)) s H (.bl (!decide (x = .non))) := fun _ q => ha _ ⟨rfl, q⟩
theorem ev_isB {a b : Bool} (ha : Ev ta s H (.bl a)) (hb : Ev tb s H (.bl b)) : Ev (tOp rIsB ta tb) s H (.bl (decide (a = b))) := fun _ q => ha _ (hb _ ⟨_, _, rfl, rfl, q⟩)
theorem ev_notB {a b : Bool} (ha : Ev ta s H (.bl a)) (hb : Ev tb s H (.bl b)) : Ev (tOp rNotB ta tb) s H (.bl (!decide (a = b))) := fun _ q => ha _ (hb _ ⟨_, _, rfl, rfl, q⟩)
theorem ev_eqD {d e : PyData} (ha : Ev ta s H x) (hb : Ev tb s H y) (h1 : Dp K H x d) (h2 : Dp K H y e) (s1 : SeqAt.shaped d = true) (s2 : SeqAt.shaped e = true) : Ev (tOp (rEqD K) ta tb) s H (.bl (PyData.eqv d e)) :=
  fun _ q => ha _ (hb _ ⟨d, e, h1, h2, s1, s2, q⟩)
theorem ev_neD {d e : PyData} (ha : Ev ta s H x) (hb : Ev tb s H y) (h1 : Dp K H x d) (h2 : Dp K H y e) (s1 : SeqAt.shaped d = true) (s2 : SeqAt.shaped e = true) : Ev (tOp (rNeD K) ta tb) s H (.bl (!PyData.eqv d e)) :=
  fun _ q => ha _ (hb _ ⟨d, e, h1, h2, s1, s2, q⟩)
theorem ev_fld {a C dx : Addr} {fs : List (Str × V)} {f : Str} (ha : Ev ta s H (.ref a)) (h : H a = some (.ins C dx fs)) (c : Cls K C) (n : NoAttr K C f) (l : fs.lookup f = some v) : Ev (tFld K ta f) s H v :=
  fun _ q => ha _ ⟨a, C, dx, fs, v, rfl, h, c, n, l, q⟩
theorem ev_ixL {p : Addr} {xs : List V} (ha : Ev ta s H (.ref p)) (hb : Ev tb s H (.int i)) (h : SqL K H p xs) (e : atI xs i = some v) : Ev (tOp (rIxL K) ta tb) s H v := fun _ q => ha _ (hb _ ⟨p, xs, i, v, rfl, rfl, h, e, q⟩)
theorem ev_ixT {p : Addr} {xs : List V} (ha : Ev ta s H (.ref p)) (hb : Ev tb s H (.int i)) (h : SqT K H p xs) (e : atI xs i = some v) : Ev (tOp (rIxT K) ta tb) s H v := fun _ q => ha _ (hb _ ⟨p, xs, i, v, rfl, rfl, h, e, q⟩)
theorem ev_lenL {p : Addr} {xs : List V} (ha : Ev ta s H (.ref p)) (h : SqL K H p xs) : Ev (tCB (rLen1 K) (tCons ta tNil)) s H (.int xs.length) := fun _ q => ha _ ⟨p, xs, rfl, .inl h, q⟩
theorem ev_lenT {p : Addr} {xs : List V} (ha : Ev ta s H (.ref p)) (h : SqT K H p xs) : Ev (tCB (rLen1 K) (tCons ta tNil)) s H (.int xs.length) := fun _ q => ha _ ⟨p, xs, rfl, .inr h, q⟩
theorem ev_inL {p : Addr} {xs : List V} {neg : Bool} (ha : Ev ta s H x) (hb : Ev tb s H (.ref p)) (h : SqL K H p xs) (f : flatV x = true) (g : xs.all flatV = true) : Ev (tOp (rIn K neg) ta tb) s H (.bl (if neg then !inV x xs else inV x xs)) :=
  fun _ q => ha _ (hb _ ⟨p, xs, rfl, .inl h, f, g, q⟩)
theorem ev_inT {p : Addr} {xs : List V} {neg : Bool} (ha : Ev ta s H x) (hb : Ev tb s H (.ref p)) (h : SqT K H p xs) (f : flatV x = true) (g : xs.all flatV = true) : Ev (tOp (rIn K neg) ta tb) s H (.bl (if neg then !inV x xs else inV x xs)) :=
  fun _ q => ha _ (hb _ ⟨p, xs, rfl, .inr h, f, g, q⟩)
theorem ev_int1 {k : Bool} (ha : Ev ta s H (.bl k)) : Ev (tCB rInt1 (tCons ta tNil)) s H (.int (if k then 1 else 0)) := fun _ q => ha _ (.inr ⟨k, rfl, q⟩)
theorem ev_is (h : Ev te s H v) (e : v = z) : Ev te s H z := e ▸ h
theorem ev_andV {a b : Bool} (h1 : Ev ta s H (.bl a)) (h2 : a = true → Ev tb s H (.bl b)) : Ev (tAndV ta tb) s H (.bl (a && b)) := fun Q q => h1 _ ⟨a, rfl, by
  cases a with
  | true => exact h2 rfl _ q
  | false => exact q⟩
theorem ev_orV {a b : Bool} (h1 : Ev ta s H (.bl a)) (h2 : a = false → Ev tb s H (.bl b)) : Ev (tOrV ta tb) s H (.bl (a || b)) := fun Q q => h1 _ ⟨a, rfl, by
  cases a with
  | true => exact q
  | false => exact h2 rfl _ q⟩
theorem ev_notV {a : Bool} (h1 : Ev ta s H (.bl a)) : Ev (tNotV ta) s H (.bl (!a)) := fun _ q => h1 _ ⟨a, rfl, q⟩
theorem ev_if {b : Bool} (h : EvT t s H b) (h1 : b = true → Ev ta s H v) (h2 : b = false → Ev tb s H v) : Ev (tIf t ta tb) s H v := fun Q q => h _ (by
  cases b with
  | true => exact h1 rfl _ q
  | false => exact h2 rfl _ q)
theorem et_test {b : Bool} (h : Ev te s H (.bl b)) : EvT (tTest te) s H b := fun _ q => h _ ⟨b, rfl, q⟩
theorem et_B {b : Bool} (h : Ev te s H (.bl b)) : EvT (tB te) s H b := fun _ q => h _ ⟨b, rfl, q⟩
theorem et_not {b : Bool} (h : EvT t s H b) : EvT (tNot t) s H (!b) := fun _ q => h _ q
theorem et_and {a b : Bool} (h1 : EvT t s H a) (h2 : a = true → EvT u s H b) : EvT (tAnd t u) s H (a && b) := fun Q q => h1 _ (by
  cases a with
  | true => exact h2 rfl _ q
  | false => exact q)
theorem et_or {a b : Bool} (h1 : EvT t s H a) (h2 : a = false → EvT u s H b) : EvT (tOr t u) s H (a || b) := fun Q q => h1 _ (by
  cases a with
  | true => exact q
  | false => exact h2 rfl _ q)
theorem et_yes : EvT tYes s H true := fun _ q => q
theorem et_is {a b : Bool} (h : EvT t s H a) (e : a = b) : EvT t s H b := e ▸ h
theorem ev_chain {r r' : R2} {a b : Bool} {ix iy iz : Int} (ha : Ev ta s H (.int ix)) (hb : Ev tb s H (.int iy)) (hc : Ev tc s H (.int iz))
    (hr : ∀ Q : VK, Q (.bl a) H → r (.int ix) (.int iy) H Q) (hr' : ∀ Q : VK, Q (.bl b) H → r' (.int iy) (.int iz) H Q) : Ev (tChain r r' ta tb tc) s H (.bl (a && b)) := fun Q q =>
  ha _ (hb _ (hr _ ⟨a, rfl, by
    cases a with
    | true => exact hc _ (hr' _ q)
    | false => exact q⟩))
theorem ev_leLe {ix iy iz : Int} (ha : Ev ta s H (.int ix)) (hb : Ev tb s H (.int iy)) (hc : Ev tc s H (.int iz)) : Ev (tChain rLeI rLeI ta tb tc) s H (.bl (decide (ix ≤ iy) && decide (iy ≤ iz))) :=
  ev_chain ha hb hc (fun _ q => ⟨_, _, rfl, rfl, q⟩) (fun _ q => ⟨_, _, rfl, rfl, q⟩)
theorem ev_leLt {ix iy iz : Int} (ha : Ev ta s H (.int ix)) (hb : Ev tb s H (.int iy)) (hc : Ev tc s H (.int iz)) : Ev (tChain rLeI rLtI ta tb tc) s H (.bl (decide (ix ≤ iy) && decide (iy < iz))) :=
  ev_chain ha hb hc (fun _ q => ⟨_, _, rfl, rfl, q⟩) (fun _ q => ⟨_, _, rfl, rfl, q⟩)
theorem ea_nil : EvA tNil s H [] := fun _ q => q
theorem ea_cons {tr : TA} {vs : List V} (h : Ev ta s H x) (hr : EvA tr s H vs) : EvA (tCons ta tr) s H (x :: vs) := fun _ q => h _ (hr _ q)

/-! ### statements -/
variable {D : Ends} {tu tw : TS} {ar : TA} {vs : List V}
theorem s_asg {n : Nat} (h : Ev te s H v) (k : D.nx (s.set n (some v)) H) : tAsg te (gName n) D s H := h _ k
theorem s_ret (h : Ev te s H v) (k : D.rt v H) : tRet te D s H := h _ k
theorem s_if_of (h : t s H (fun b H1 => if b = true then tu D s H1 else tw D s H1)) : tIfS t tu tw D s H := h
theorem t_test_of {Q : Bool → Hp → Prop} (h : te s H (fun x H1 => ∃ k, x = .bl k ∧ Q k H1)) : tTest te s H Q := h
theorem t_B_of {Q : Bool → Hp → Prop} (h : te s H (fun x H1 => ∃ k, x = .bl k ∧ Q k H1)) : tB te s H Q := h
theorem t_op_of {r : R2} {Q : VK} (h : ta s H fun x H1 => tb s H1 fun y H2 => r x y H2 Q) : tOp r ta tb s H Q := h
theorem s_ret_of (h : te s H D.rt) : tRet te D s H := h
theorem s_asg_of {g : TG} (h : te s H (fun x H1 => g x s H1 D.nx)) : tAsg te g D s H := h
theorem t_cons_of {tr : TA} {Q : List V → Hp → Prop} (h : te s H fun x H1 => tr s H1 fun xs H2 => Q (x :: xs) H2) : tCons te tr s H Q := h
theorem t_tup_of {Q : VK} (h : ar s H fun xs H1 => xs.length ≤ sizeLine ∧ ∀ p, H1 p = none → Q (.ref p) (upd H1 p (.tup xs))) : tTup ar s H Q := h
theorem t_lst_of {Q : VK} (h : ar s H fun xs H1 => xs.length ≤ sizeLine ∧ ∀ p, H1 p = none → Q (.ref p) (upd H1 p (.lst xs))) : tLst ar s H Q := h
theorem t_call_of {sp : Sp} {E : XK} {Q : VK} (h : ar s H fun vs H1 => sp vs H1 Q E) : tCall sp [] E ar s H Q := by
  have e : (fun vs H1 => sp (vs ++ []) H1 Q E) = fun vs H1 => sp vs H1 Q E := by
    funext vs H1
    rw [List.append_nil]
  show ar s H (fun vs H1 => sp (vs ++ []) H1 Q E)
  rw [e]
  exact h
theorem t_cb_of {r : List V → Hp → VK → Prop} {Q : VK} (h : ar s H fun vs H1 => r vs H1 Q) : tCB r ar s H Q := h
theorem t_bm_of {T : String} {r : V → List V → Hp → VK → Prop} {to : TE} {Q : VK} (h : to s H fun x H1 => tyV K T x H1 ∧ ar s H1 fun xs H2 => r x xs H2 Q) : tBM K T r to ar s H Q := h
theorem s_seq {t u : TS} (h : t { D with nx := u D } s H) : tSeq t u D s H := h
theorem s_if {b : Bool} (h : EvT t s H b) (h1 : b = true → tu D s H) (h2 : b = false → tw D s H) : tIfS t tu tw D s H := h _ (by
  cases b with
  | true => exact h1 rfl
  | false => exact h2 rfl)
theorem s_ifT (h : EvT t s H true) (h1 : tu D s H) : tIfS t tu tw D s H := h _ h1
theorem s_ifF (h : EvT t s H false) (h1 : tw D s H) : tIfS t tu tw D s H := h _ h1
theorem s_drop' (h : te s H (fun _ H1 => D.nx s H1)) : tDrop te D s H := h
theorem s_drop (h : Ev te s H v) (k : D.nx s H) : tDrop te D s H := h _ k
/-- a field of an own object -/
theorem s_fld {a C dx : Addr} {fs : List (Str × V)} {f : Str} (hv : Ev te s H v) (ha : Ev ta s H (.ref a)) (h : H a = some (.ins C dx fs)) (c : Cls K C) (n : NoAttr K C f) (hl : fs.length < 1000) (k : D.nx s (upd H a (.ins C dx (putF f v fs)))) :
    sFld K ta te f D s H := hv _ (ha _ ⟨a, C, dx, fs, rfl, h, c, n, hl, k⟩)
theorem s_app {l : Addr} {xs : List V} (ha : Ev ta s H (.ref l)) (hl : H l = some (.lst xs)) (h : Ev te s H v) (hz : xs.length < sizeLine) (k : D.nx s (upd H l (.lst (xs ++ [v])))) :
    tDrop (tBM K "list" rAppend ta (tCons te tNil)) D s H := ha _ ⟨Or.inl ⟨rfl, xs, SqL.of hl⟩, h _ ⟨l, xs, v, rfl, rfl, hl, hz, k⟩⟩
theorem s_appX {l : Addr} {xs : List V} (ha : Ev ta s H (.ref l)) (hl : H l = some (.lst xs)) (h : te s H (fun v H1 => ∃ ys, H1 l = some (.lst ys) ∧ ys.length < sizeLine ∧ D.nx s (upd H1 l (.lst (ys ++ [v]))))) :
    tDrop (tBM K "list" rAppend ta (tCons te tNil)) D s H := ha _ ⟨Or.inl ⟨rfl, xs, SqL.of hl⟩, by
  show te s H _
  have e : (fun (v : V) (H1 : Hp) => ∃ ys, H1 l = some (.lst ys) ∧ ys.length < sizeLine ∧ D.nx s (upd H1 l (.lst (ys ++ [v])))) = fun (v : V) (H1 : Hp) => ∃ (l' : Addr) (xs : List V) (y : V), V.ref l = .ref l' ∧ [v] = [y] ∧ H1 l' = some (.lst xs) ∧ xs.length < sizeLine ∧ D.nx s (upd H1 l' (.lst (xs ++ [y]))) := by
    funext v H1
    apply propext
    constructor
    · rintro ⟨ys, h1, h2, h3⟩
      exact ⟨l, ys, v, rfl, rfl, h1, h2, h3⟩
    · rintro ⟨l', ys, y, e1, e2, h1, h2, h3⟩
      cases e1
      cases e2
      exact ⟨ys, h1, h2, h3⟩
  rw [e] at h
  exact h⟩
theorem s_setL {l : Addr} {xs : List V} {j : Nat} (h : Ev te s H v) (ho : Ev ta s H (.ref l)) (hi : Ev tb s H (.int i)) (hl : H l = some (.lst xs)) (hj : ixN xs.length i = some j) (k : D.nx s (upd H l (.lst (xs.set j v)))) :
    tAsg te (gSub ta tb rSetL) D s H := h _ (ho _ (hi _ ⟨l, xs, i, j, rfl, rfl, hl, hj, k⟩))
/-- a call of an own def -/
theorem s_call {sp : Sp} {E : XK} {Q : VK} (h : EvA ar s H vs) (k : sp vs H Q E) : tCall sp [] E ar s H Q := h _ (by rw [List.append_nil]; exact k)
theorem s_meth {C a dx : Addr} {m : Str} {sp : Sp} {E : XK} {fs : List (Str × V)} {Q : VK} (ha : Ev ta s H (.ref a)) (h : H a = some (.ins C dx fs)) (hm : fs.lookup m = none) (hv : EvA ar s H vs) (k : sp (.ref a :: vs) H Q E) :
    tMeth C m sp [] E ta ar s H Q := ha _ ⟨a, dx, fs, rfl, h, hm, hv _ (by simpa using k)⟩
/-- a new tuple -/
theorem e_tup {Q : VK} (h : EvA ar s H vs) (hl : vs.length ≤ 1000) (k : ∀ p, H p = none → Q (.ref p) (upd H p (.tup vs))) : tTup ar s H Q := h _ ⟨Nat.le_trans hl (by decide), k⟩
theorem e_lst {Q : VK} (h : EvA ar s H vs) (hl : vs.length ≤ 1000) (k : ∀ p, H p = none → Q (.ref p) (upd H p (.lst vs))) : tLst ar s H Q := h _ ⟨Nat.le_trans hl (by decide), k⟩
theorem e_listOf {Q : VK} {p : Addr} {xs : List V} (ha : Ev ta s H (.ref p)) (h : SqL K H p xs ∨ SqT K H p xs) (k : ∀ l, H l = none → Q (.ref l) (upd H l (.lst xs))) : tCB (rListOf K) (tCons ta tNil) s H Q :=
  ha _ ⟨p, xs, rfl, h, k⟩

/-! ### loops and comprehensions -/
abbrev Turn (D : Addr) (g : TG) (tt : TT) (te : TE) (vs : List Nat) (s : L2.St) (P : Hp → Prop) (x : V) (H : Hp) : Prop :=
  g x (wipe s vs) H fun s2 H2 => wipe s2 vs = wipe s vs ∧ tt s2 H2 fun b H3 => if b = true then te s2 H3 fun y H4 => ∃ acc, H4 D = some (.lst acc) ∧ acc.length < sizeLine ∧ P (upd H4 D (.lst (acc ++ [y]))) else P H3
theorem e_lcL {tl : TE} {g : TG} {ws : List Nat} {a : Addr} {xs : List V} {Q : VK} (ht : Ev tl s H (.ref a)) (h : SqL K H a xs) (Pv : Addr → Nat → Hp → Prop) (h0 : ∀ D, H D = none → Pv D 0 (upd H D (.lst [])))
    (hl : ∀ D i H', i ≤ xs.length → H D = none → Pv D i H' → SqL K H' a xs) (hs : ∀ D i x H', xs[i]? = some x → H D = none → Pv D i H' → Turn D g t te ws s (Pv D (i + 1)) x H')
    (hd : ∀ D H', H D = none → Pv D xs.length H' → Q (.ref D) H') : tLc (iList K tl) g t te ws s H Q :=
  ht _ ⟨a, rfl, ⟨_, h⟩, fun D hD => lc_list (xs := xs) (Pv D) (h0 D hD) (fun i H' hi p => hl D i H' hi hD p) (fun i x H' hx p => hs D i x H' hx hD p) fun H' p => hd D H' hD p⟩
theorem e_lcT {tl : TE} {g : TG} {ws : List Nat} {a : Addr} {xs : List V} {Q : VK} (ht : Ev tl s H (.ref a)) (h : SqT K H a xs) (Pv : Addr → Nat → Hp → Prop) (h0 : ∀ D, H D = none → Pv D 0 (upd H D (.lst [])))
    (hl : ∀ D i H', i ≤ xs.length → H D = none → Pv D i H' → SqT K H' a xs) (hs : ∀ D i x H', xs[i]? = some x → H D = none → Pv D i H' → Turn D g t te ws s (Pv D (i + 1)) x H')
    (hd : ∀ D H', H D = none → Pv D xs.length H' → Q (.ref D) H') : tLc (iTup K tl) g t te ws s H Q :=
  ht _ ⟨a, rfl, ⟨_, h⟩, fun D hD => lc_tup (xs := xs) (Pv D) (h0 D hD) (fun i H' hi p => hl D i H' hi hD p) (fun i x H' hx p => hs D i x H' hx hD p) fun H' p => hd D H' hD p⟩
theorem e_lcR {tl : TE} {g : TG} {ws : List Nat} {n : Nat} {Q : VK} (ht : Ev tl s H (.int n)) (hn : n ≤ 1000000) (Pv : Addr → Nat → Hp → Prop) (h0 : ∀ D, H D = none → Pv D 0 (upd H D (.lst [])))
    (hs : ∀ D (i : Nat) H', i < n → H D = none → Pv D i H' → Turn D g t te ws s (Pv D (i + 1)) (.int i) H')
    (hd : ∀ D H', H D = none → Pv D n H' → Q (.ref D) H') : tLc (iRng1 (tCons tl tNil)) g t te ws s H Q :=
  ht _ ⟨n, rfl, by omega, by omega, fun D hD => lc_range (lo := 0) (n := n) (Pv D) (h0 D hD) (fun i H' hi p => by
    have e0 : (0 : Int) + (i : Int) = (i : Int) := Int.zero_add _
    rw [e0]
    exact hs D i H' hi hD p) fun H' p => hd D H' hD p⟩
theorem s_forL {tl : TE} {g : TG} {tb : TS} {a : Addr} {xs : List V} (ht : Ev tl s H (.ref a)) (h : SqL K H a xs) (Pv : Nat → L2.St → Hp → Prop) (h0 : Pv 0 s H)
    (hl : ∀ i s' H', i ≤ xs.length → Pv i s' H' → SqL K H' a xs) (hs : ∀ i x s' H', xs[i]? = some x → Pv i s' H' → g x s' H' fun s2 H2 => tb { D with nx := Pv (i + 1), ct := Pv (i + 1), bk := D.nx } s2 H2)
    (hd : ∀ s' H', Pv xs.length s' H' → D.nx s' H') : tFor (iList K tl) g tb D s H := ht _ ⟨a, rfl, ⟨_, h⟩, for_list (xs := xs) Pv h0 hl hs hd⟩
/-- over a list that is made on the way -/
theorem s_forLN {tl : TE} {g : TG} {tb : TS} {xs : List V} (Pv : Addr → Nat → L2.St → Hp → Prop)
    (ht : ∀ R : VK, (∀ a H', H a = none → Same H H' → H' a = some (.lst xs) → R (.ref a) H') → tl s H R)
    (h0 : ∀ a H', H a = none → Same H H' → H' a = some (.lst xs) → Pv a 0 s H') (hl : ∀ a i s' H', i ≤ xs.length → H a = none → Pv a i s' H' → SqL K H' a xs)
    (hs : ∀ a i x s' H', xs[i]? = some x → H a = none → Pv a i s' H' → g x s' H' fun s2 H2 => tb { D with nx := Pv a (i + 1), ct := Pv a (i + 1), bk := D.nx } s2 H2)
    (hd : ∀ a s' H', H a = none → Pv a xs.length s' H' → D.nx s' H') : tFor (iList K tl) g tb D s H :=
  ht _ fun a H' ha c hL => ⟨a, rfl, ⟨_, SqL.of hL⟩, for_list (xs := xs) (Pv a) (h0 a H' ha c hL) (fun i s' H' hi p => hl a i s' H' hi ha p) (fun i x s' H' hx p => hs a i x s' H' hx ha p) fun s' H' p => hd a s' H' ha p⟩
theorem s_forT {tl : TE} {g : TG} {tb : TS} {a : Addr} {xs : List V} (ht : Ev tl s H (.ref a)) (h : SqT K H a xs) (Pv : Nat → L2.St → Hp → Prop) (h0 : Pv 0 s H)
    (hl : ∀ i s' H', i ≤ xs.length → Pv i s' H' → SqT K H' a xs) (hs : ∀ i x s' H', xs[i]? = some x → Pv i s' H' → g x s' H' fun s2 H2 => tb { D with nx := Pv (i + 1), ct := Pv (i + 1), bk := D.nx } s2 H2)
    (hd : ∀ s' H', Pv xs.length s' H' → D.nx s' H') : tFor (iTup K tl) g tb D s H := ht _ ⟨a, rfl, ⟨_, h⟩, for_tup (xs := xs) Pv h0 hl hs hd⟩
theorem s_forR {tl : TE} {g : TG} {tb : TS} {n : Nat} (ht : Ev tl s H (.int n)) (hn : n ≤ 1000000) (Pv : Nat → L2.St → Hp → Prop) (h0 : Pv 0 s H)
    (hs : ∀ (i : Nat) s' H', i < n → Pv i s' H' → g (.int i) s' H' fun s2 H2 => tb { D with nx := Pv (i + 1), ct := Pv (i + 1), bk := D.nx } s2 H2)
    (hd : ∀ s' H', Pv n s' H' → D.nx s' H') : tFor (iRng1 (tCons tl tNil)) g tb D s H := ht _ ⟨n, rfl, by omega, by omega, for_range (lo := 0) (n := n) Pv h0 (fun i s' H' hi p => by
    have e0 : (0 : Int) + (i : Int) = (i : Int) := Int.zero_add _
    rw [e0]
    exact hs i s' H' hi p) hd⟩
theorem s_while {c : TT} {tb : TS} (Pv : L2.St → Hp → Prop) (mu : L2.St → Hp → Nat) (h0 : Pv s H)
    (hs : ∀ s' H', Pv s' H' → (EvT c s' H' false ∧ D.nx s' H') ∨ (EvT c s' H' true ∧ tb { D with nx := fun s2 H2 => Pv s2 H2 ∧ mu s2 H2 < mu s' H', ct := fun s2 H2 => Pv s2 H2 ∧ mu s2 H2 < mu s' H', bk := D.nx } s' H')) : tWhile c tb D s H := by
  refine ⟨fun m s H => m = mu s H ∧ Pv s H, ⟨_, rfl, h0⟩, ?_⟩
  rintro m s' H' ⟨rfl, p⟩
  rcases hs s' H' p with ⟨e, q⟩ | ⟨e, q⟩
  · exact e _ q
  · exact e _ ⟨_, fun s2 H2 ⟨p2, l⟩ => ⟨_, l, rfl, p2⟩, q⟩
/-- the range's end is reckoned on the way -/
theorem e_lcRX {tl : TE} {g : TG} {ws : List Nat} {Q : VK} (Good : Nat → Hp → Prop) (ht : ∀ R : VK, (∀ (n : Nat) H1, Good n H1 → R (.int n) H1) → tl s H R)
    (k : ∀ (n : Nat) H1, Good n H1 → tLc (iRng1 (tCons (tC (.int n)) tNil)) g t te ws s H1 Q) : tLc (iRng1 (tCons tl tNil)) g t te ws s H Q :=
  ht _ fun n H1 h => k n H1 h
theorem s_forRX {tl : TE} {g : TG} {tb : TS} (Good : Nat → Hp → Prop) (ht : ∀ R : VK, (∀ (n : Nat) H1, Good n H1 → R (.int n) H1) → tl s H R)
    (k : ∀ (n : Nat) H1, Good n H1 → tFor (iRng1 (tCons (tC (.int n)) tNil)) g tb D s H1) : tFor (iRng1 (tCons tl tNil)) g tb D s H :=
  ht _ fun n H1 h => k n H1 h
abbrev rInsert : V → List V → Hp → VK → Prop := fun x vs H Q => ∃ (l : Addr) (xs : List V) (i : Int) (y : V), x = .ref l ∧ vs = [.int i, y] ∧ H l = some (.lst xs) ∧ xs.length < sizeLine ∧ 0 ≤ i ∧ i < 2 ^ 63 ∧ Q .non (upd H l (.lst (xs.take i.toNat ++ [y] ++ xs.drop i.toNat)))
theorem s_whileN {c : TT} {tb : TS} (Pv : Nat → L2.St → Hp → Prop) (h0 : ∃ n, Pv n s H)
    (hs : ∀ n s' H', Pv n s' H' → c s' H' fun b H1 => if b = true then tb { D with nx := fun s2 H2 => ∃ m, m < n ∧ Pv m s2 H2, ct := fun s2 H2 => ∃ m, m < n ∧ Pv m s2 H2, bk := D.nx } s' H1 else D.nx s' H1)
    (mono : ∀ s' H' R R', (∀ b H1, R b H1 → R' b H1) → c s' H' R → c s' H' R') : tWhile c tb D s H := by
  refine ⟨Pv, h0, fun n s' H' p => mono s' H' _ _ (fun b H1 q => ?_) (hs n s' H' p)⟩
  cases b with
  | true => exact ⟨_, fun s2 H2 z => z, q⟩
  | false => exact q
theorem t_make_of {C : Addr} {sp : Sp} {E : XK} {Q : VK} (h : ar s H fun vs H1 => ∀ x dx, H1 x = none → H1 dx = none → dx ≠ x → sp (.ref x :: vs) (upd (upd H1 dx (.own x)) x (.ins C dx [])) (fun v H2 => v = .non ∧ Q (.ref x) H2) E) : tMake C sp [] E ar s H Q := by
  have e : (fun vs H1 => ∀ x dx, H1 x = none → H1 dx = none → dx ≠ x → sp (.ref x :: vs) (upd (upd H1 dx (.own x)) x (.ins C dx [])) (fun v H2 => v = .non ∧ Q (.ref x) H2) E) =
      fun vs H1 => ∀ x dx, H1 x = none → H1 dx = none → dx ≠ x → sp (.ref x :: (vs ++ [])) (upd (upd H1 dx (.own x)) x (.ins C dx [])) (fun v H2 => v = .non ∧ Q (.ref x) H2) E := by
    funext vs H1
    rw [List.append_nil]
  rw [e] at h
  exact h
end
end SS

set_option Elab.async false
set_option linter.all false
set_option maxRecDepth 100000
set_option maxHeartbeats 4000000
namespace SS
open PySem L2

/-! ### what changes -/
/-- tuples, locked things -/
def stay : HO → Prop
  | .tup _ => True
  | .frz _ _ => True
  | _ => False
/-- but for what F names all that was tracked stands; tuples, and what is locked, stand anyway -/
structure Chg (F : Addr → Prop) (H H' : Hp) : Prop where
  keep : ∀ b o, H b = some o → ¬ F b → H' b = some o
  fix_ : ∀ b o, H b = some o → stay o → H' b = some o
theorem Chg.tup {F : Addr → Prop} {H H' : Hp} (c : Chg F H H') : ∀ b xs, H b = some (.tup xs) → H' b = some (.tup xs) := fun b _ h => c.fix_ b _ h trivial
theorem Chg.frz {F : Addr → Prop} {H H' : Hp} (c : Chg F H H') {b : Addr} {o : Obj} {u : HO} (h : H b = some (.frz o u)) : H' b = some (.frz o u) := c.fix_ b _ h trivial
theorem Chg.refl (F : Addr → Prop) (H : Hp) : Chg F H H := ⟨fun _ _ h _ => h, fun _ _ h _ => h⟩
theorem Chg.trans {F : Addr → Prop} {H H1 H2 : Hp} (a : Chg F H H1) (b : Chg F H1 H2) : Chg F H H2 :=
  ⟨fun c o h n => b.keep c o (a.keep c o h n) n, fun c o h s => b.fix_ c o (a.fix_ c o h s) s⟩
theorem Chg.mono {F G : Addr → Prop} {H H' : Hp} (a : Chg F H H') (h : ∀ b, F b → G b) : Chg G H H' := ⟨fun c o e n => a.keep c o e fun z => n (h c z), a.fix_⟩
theorem Chg.same {F : Addr → Prop} {H H' : Hp} (a : Same H H') : Chg F H H' := ⟨fun b o h _ => a b o h, fun b o h _ => a b o h⟩
theorem Same.new {H : Hp} {p : Addr} {o : HO} (h : H p = none) : Same H (upd H p o) := fun b u e => by rw [upd_ne (ne_of_none e h)]; exact e
/-- something that may be changed, at an address of F, is put -/
theorem Chg.put {F : Addr → Prop} {H : Hp} {a : Addr} {o : HO} (hF : F a) (nt : ∀ u, H a = some u → ¬ stay u) : Chg F H (upd H a o) :=
  ⟨fun b u e n => by
    have hb : b ≠ a := fun z => n (by rw [z]; exact hF)
    rw [upd_ne hb]
    exact e, fun b u e s => by
    have hb : b ≠ a := fun z => nt u (by rw [← z]; exact e) s
    rw [upd_ne hb]
    exact e⟩

/-! ### data that stands -/
def SeenAt (H : Hp) (v : V) : Option (Nat × Nat) → Prop
  | none => v = .non
  | some (t, k) => ∃ q, v = .ref q ∧ H q = some (.tup [.int t, .int k])
def PairAt (H : Hp) (v : V) (p : Nat × Nat) : Prop := ∃ q, v = .ref q ∧ H q = some (.tup [.int p.1, .int p.2])
def DeedAt (H : Hp) (v : V) (d : Deed) : Prop := ∃ q, v = .ref q ∧ H q = some (.tup (deedVs d))
def RuleAt (H : Hp) (a : Addr) : Rule → Prop
  | .counts m => H a = some (.tup [.str "counts", .int m])
  | .marks hs => ∃ t, H a = some (.tup [.str "marks", .ref t]) ∧ H t = some (.tup (hs.map natV))
  | .keeps => H a = some (.tup [.str "keeps"])
inductive All2 {α β : Type} (R : α → β → Prop) : List α → List β → Prop where
  | nil : All2 R [] []
  | cons {a b l m} : R a b → All2 R l m → All2 R (a :: l) (b :: m)
theorem All2.mono {α β : Type} {R S : α → β → Prop} (h : ∀ a b, R a b → S a b) : ∀ {l m}, All2 R l m → All2 S l m
  | _, _, .nil => .nil
  | _, _, .cons r t => .cons (h _ _ r) (All2.mono h t)
theorem All2.length {α β : Type} {R : α → β → Prop} : ∀ {l m}, All2 R l m → l.length = m.length
  | _, _, .nil => rfl
  | _, _, .cons _ t => by simp [All2.length t]
theorem All2.get {α β : Type} {R : α → β → Prop} : ∀ {l m} (i : Nat) {b : β}, All2 R l m → m[i]? = some b → ∃ a, l[i]? = some a ∧ R a b
  | _, _, i, b, .nil, h => by simp at h
  | _, _, 0, b, .cons r t, h => ⟨_, rfl, by have e := Option.some.inj h; subst e; exact r⟩
  | _, _, i + 1, b, .cons r t, h => All2.get i t h
theorem All2.snoc {α β : Type} {R : α → β → Prop} {a : α} {b : β} (h : R a b) : ∀ {l m}, All2 R l m → All2 R (l ++ [a]) (m ++ [b])
  | _, _, .nil => .cons h .nil
  | _, _, .cons r t => .cons r (All2.snoc h t)
theorem All2.map {α β γ : Type} {R : α → β → Prop} {f : γ → α} {g : γ → β} : ∀ {l : List γ}, (∀ c ∈ l, R (f c) (g c)) → All2 R (l.map f) (l.map g)
  | [], _ => .nil
  | c :: l, h => .cons (h c List.mem_cons_self) (All2.map fun d hd => h d (List.mem_cons_of_mem _ hd))

section
variable {H H' : Hp}
abbrev Tups (H H' : Hp) : Prop := ∀ b xs, H b = some (.tup xs) → H' b = some (.tup xs)
theorem SeenAt.mono (t : Tups H H') {v : V} : ∀ {o : Option (Nat × Nat)}, SeenAt H v o → SeenAt H' v o
  | none, h => h
  | some (_, _), ⟨q, e, h⟩ => ⟨q, e, t _ _ h⟩
theorem PairAt.mono (t : Tups H H') {v : V} {p : Nat × Nat} (h : PairAt H v p) : PairAt H' v p := let ⟨q, e, h⟩ := h; ⟨q, e, t _ _ h⟩
theorem DeedAt.mono (t : Tups H H') {v : V} {p : Deed} (h : DeedAt H v p) : DeedAt H' v p := let ⟨q, e, h⟩ := h; ⟨q, e, t _ _ h⟩
theorem RuleAt.mono (t : Tups H H') {a : Addr} : ∀ {r : Rule}, RuleAt H a r → RuleAt H' a r
  | .counts _, h => t _ _ h
  | .marks _, ⟨q, h1, h2⟩ => ⟨q, t _ _ h1, t _ _ h2⟩
  | .keeps, h => t _ _ h
end

/-! ### the machine, part by part -/
inductive Role where
  | m | worths | links | freed | handsL | ends
  | hand (i : Nat) | said (i : Nat) | prog (i : Nat)
  deriving DecidableEq
def MA.at (A : MA) : Role → Option Addr
  | .m => some A.p
  | .worths => some A.worths
  | .links => some A.links
  | .freed => some A.freed
  | .handsL => some A.handsL
  | .ends => some A.ends
  | .hand i => (A.hs[i]?).map (·.h)
  | .said i => (A.hs[i]?).map (·.said)
  | .prog i => (A.hs[i]?).map (·.prog)
def MA.owns (A : MA) (a : Addr) : Prop := ∃ r, A.at r = some a
def Cont (Z : Cs) (H : Hp) (A : MA) (m : M) : Role → HO → Prop
  | .m, o => o = .ins Z.M A.dx (mf A m)
  | .worths, o => o = .lst (m.worths.map V.int)
  | .links, o => o = .lst (m.links.map natV)
  | .freed, o => o = .lst (m.freed.map natV)
  | .handsL, o => o = .lst (A.hs.map fun a => V.ref a.h)
  | .ends, o => ∃ vs, o = .lst vs ∧ All2 (PairAt H) vs m.ends
  | .hand i, o => ∃ a sv, A.hs[i]? = some a ∧ o = .ins Z.H a.dx (hf a sv (m.hd i)) ∧ SeenAt H sv (m.hd i).seen
  | .said i, o => o = .lst ((m.hd i).said.map ansV)
  | .prog i, o => ∃ vs, o = .lst vs ∧ All2 (DeedAt H) vs (m.prog i)
structure MachAt (Z : Cs) (H : Hp) (A : MA) (m : M) : Prop where
  at_ : ∀ r a, A.at r = some a → ∃ o, H a = some o ∧ Cont Z H A m r o
  rule : RuleAt H A.rule m.rule
  hs : A.hs.length = m.hands.length
  ps : m.progs.length = m.hands.length
  sep : ∀ r r' a, A.at r = some a → A.at r' = some a → r = r'
section
variable {Z : Cs} {H H' : Hp} {A : MA} {m m' : M}
theorem Cont.mono (t : Tups H H') {r : Role} {o : HO} (h : Cont Z H A m r o) : Cont Z H' A m r o := by
  cases r with
  | ends => obtain ⟨vs, e, h⟩ := h; exact ⟨vs, e, h.mono fun _ _ => PairAt.mono t⟩
  | hand i => obtain ⟨a, sv, h1, h2, h3⟩ := h; exact ⟨a, sv, h1, h2, h3.mono t⟩
  | prog i => obtain ⟨vs, e, h⟩ := h; exact ⟨vs, e, h.mono fun _ _ => DeedAt.mono t⟩
  | _ => exact h
theorem Cont.nostay {r : Role} {u : HO} (h : Cont Z H A m r u) : ¬ stay u := by
  cases r with
  | ends => obtain ⟨vs, rfl, h⟩ := h; exact fun z => z
  | hand i => obtain ⟨a, sv, h1, rfl, h3⟩ := h; exact fun z => z
  | prog i => obtain ⟨vs, rfl, h⟩ := h; exact fun z => z
  | _ => (have e : u = _ := h); subst e; exact fun z => z
theorem MachAt.nostay (T : MachAt Z H A m) {a : Addr} (h : A.owns a) (u : HO) (e : H a = some u) : ¬ stay u := by
  obtain ⟨r, hr⟩ := h
  obtain ⟨o, ho, hc⟩ := T.at_ r a hr
  rw [ho] at e
  cases e
  exact hc.nostay
/-- all that the machine owns stands -/
theorem MachAt.chg {F : Addr → Prop} (T : MachAt Z H A m) (c : Chg F H H') (d : ∀ a, A.owns a → ¬ F a) : MachAt Z H' A m where
  at_ := fun r a ha => by
    obtain ⟨o, ho, hc⟩ := T.at_ r a ha
    exact ⟨o, c.keep a o ho (d a ⟨r, ha⟩), hc.mono c.tup⟩
  rule := T.rule.mono c.tup
  hs := T.hs
  ps := T.ps
  sep := T.sep
theorem MachAt.same (T : MachAt Z H A m) (c : Same H H') : MachAt Z H' A m := T.chg (F := fun _ => False) (Chg.same c) fun _ _ z => z
theorem MachAt.new (T : MachAt Z H A m) {p : Addr} {o : HO} (h : H p = none) : MachAt Z (upd H p o) A m := T.same (Same.new h)
/-- one part is changed -/
theorem MachAt.put (T : MachAt Z H A m) {r : Role} {a : Addr} {o : HO} (ha : A.at r = some a) (hc : ∀ H', Tups H H' → Cont Z H' A m' r o) (oth : ∀ r' u, r' ≠ r → Cont Z H A m r' u → Cont Z H A m' r' u)
    (hr : m'.rule = m.rule) (hh : m'.hands.length = m.hands.length) (hp : m'.progs = m.progs) : MachAt Z (upd H a o) A m' ∧ Chg A.owns H (upd H a o) := by
  have c : Chg A.owns H (upd H a o) := Chg.put ⟨r, ha⟩ (T.nostay ⟨r, ha⟩)
  refine ⟨⟨fun r' b hb => ?_, by rw [hr]; exact T.rule.mono c.tup, by rw [hh]; exact T.hs, by rw [hh, hp]; exact T.ps, T.sep⟩, c⟩
  by_cases e : r' = r
  · subst e
    rw [ha] at hb
    cases hb
    exact ⟨o, upd_same, hc _ c.tup⟩
  · obtain ⟨u, hu, hcu⟩ := T.at_ r' b hb
    have nb : b ≠ a := fun z => e (T.sep r' r b hb (by rw [z]; exact ha))
    exact ⟨u, by rw [upd_ne nb]; exact hu, (oth r' u e hcu).mono c.tup⟩

/-! ### reading the parts -/
theorem MachAt.obj (T : MachAt Z H A m) : H A.p = some (.ins Z.M A.dx (mf A m)) := by
  obtain ⟨o, ho, rfl⟩ := T.at_ .m A.p rfl
  exact ho
theorem MachAt.worthsL (T : MachAt Z H A m) : H A.worths = some (.lst (m.worths.map V.int)) := by
  obtain ⟨o, ho, rfl⟩ := T.at_ .worths _ rfl
  exact ho
theorem MachAt.linksL (T : MachAt Z H A m) : H A.links = some (.lst (m.links.map natV)) := by
  obtain ⟨o, ho, rfl⟩ := T.at_ .links _ rfl
  exact ho
theorem MachAt.freedL (T : MachAt Z H A m) : H A.freed = some (.lst (m.freed.map natV)) := by
  obtain ⟨o, ho, rfl⟩ := T.at_ .freed _ rfl
  exact ho
theorem MachAt.handsLL (T : MachAt Z H A m) : H A.handsL = some (.lst (A.hs.map fun a => V.ref a.h)) := by
  obtain ⟨o, ho, rfl⟩ := T.at_ .handsL _ rfl
  exact ho
theorem MachAt.endsL (T : MachAt Z H A m) : ∃ vs, H A.ends = some (.lst vs) ∧ All2 (PairAt H) vs m.ends := by
  obtain ⟨o, ho, vs, rfl, h⟩ := T.at_ .ends _ rfl
  exact ⟨vs, ho, h⟩
theorem MachAt.handO (T : MachAt Z H A m) {i : Nat} {a : HA} (h : A.hs[i]? = some a) : ∃ sv, H a.h = some (.ins Z.H a.dx (hf a sv (m.hd i))) ∧ SeenAt H sv (m.hd i).seen := by
  obtain ⟨o, ho, b, sv, hb, rfl, hs⟩ := T.at_ (.hand i) a.h (by simp [MA.at, h])
  rw [h] at hb
  cases hb
  exact ⟨sv, ho, hs⟩
theorem MachAt.saidL (T : MachAt Z H A m) {i : Nat} {a : HA} (h : A.hs[i]? = some a) : H a.said = some (.lst ((m.hd i).said.map ansV)) := by
  obtain ⟨o, ho, rfl⟩ := T.at_ (.said i) a.said (by simp [MA.at, h])
  exact ho
theorem MachAt.progL (T : MachAt Z H A m) {i : Nat} {a : HA} (h : A.hs[i]? = some a) : ∃ vs, H a.prog = some (.lst vs) ∧ All2 (DeedAt H) vs (m.prog i) := by
  obtain ⟨o, ho, vs, rfl, h⟩ := T.at_ (.prog i) a.prog (by simp [MA.at, h])
  exact ⟨vs, ho, h⟩
theorem MachAt.hand_of (T : MachAt Z H A m) {i : Nat} (h : i < m.hands.length) : ∃ a, A.hs[i]? = some a := ⟨A.hs[i]'(by rw [T.hs]; exact h), List.getElem?_eq_getElem _⟩
theorem handV {i : Nat} {a : HA} (h : A.hs[i]? = some a) : atI (A.hs.map fun a => V.ref a.h) (i : Int) = some (.ref a.h) := atI_nat (by rw [List.getElem?_map, h] <;> rfl)

/-! ### writing them -/
/-- the machine's own ints and bool -/
theorem MachAt.setM (T : MachAt Z H A m) (t k : Nat) (b : Bool) :
    MachAt Z (upd H A.p (.ins Z.M A.dx (mf A { m with top := t, count := k, strayed := b }))) A { m with top := t, count := k, strayed := b } ∧ Chg A.owns H (upd H A.p (.ins Z.M A.dx (mf A { m with top := t, count := k, strayed := b }))) :=
  T.put (r := .m) rfl (fun _ _ => rfl) (fun r' u ne h => by cases r' <;> first | exact absurd rfl ne | exact h) rfl rfl rfl
theorem MachAt.setWorths (T : MachAt Z H A m) (w : List Int) : MachAt Z (upd H A.worths (.lst (w.map V.int))) A { m with worths := w } ∧ Chg A.owns H (upd H A.worths (.lst (w.map V.int))) :=
  T.put (r := .worths) rfl (fun _ _ => rfl) (fun r' u ne h => by cases r' <;> first | exact absurd rfl ne | exact h) rfl rfl rfl
theorem MachAt.setLinks (T : MachAt Z H A m) (w : List Nat) : MachAt Z (upd H A.links (.lst (w.map natV))) A { m with links := w } ∧ Chg A.owns H (upd H A.links (.lst (w.map natV))) :=
  T.put (r := .links) rfl (fun _ _ => rfl) (fun r' u ne h => by cases r' <;> first | exact absurd rfl ne | exact h) rfl rfl rfl
theorem MachAt.setFreed (T : MachAt Z H A m) (w : List Nat) : MachAt Z (upd H A.freed (.lst (w.map natV))) A { m with freed := w } ∧ Chg A.owns H (upd H A.freed (.lst (w.map natV))) :=
  T.put (r := .freed) rfl (fun _ _ => rfl) (fun r' u ne h => by cases r' <;> first | exact absurd rfl ne | exact h) rfl rfl rfl
theorem MachAt.addEnd (T : MachAt Z H A m) {vs : List V} {v : V} {p : Nat × Nat} (hv : All2 (PairAt H) vs m.ends) (hp : PairAt H v p) :
    MachAt Z (upd H A.ends (.lst (vs ++ [v]))) A { m with ends := m.ends ++ [p] } ∧ Chg A.owns H (upd H A.ends (.lst (vs ++ [v]))) :=
  T.put (r := .ends) rfl (fun _ t => ⟨_, rfl, (hv.mono fun _ _ => PairAt.mono t).snoc (hp.mono t)⟩) (fun r' u ne h => by cases r' <;> first | exact absurd rfl ne | exact h) rfl rfl rfl
/-- a hand's attributes -/
theorem MachAt.setHand (T : MachAt Z H A m) {i : Nat} {a : HA} {sv : V} {x : Hd} (h : A.hs[i]? = some a) (hs : SeenAt H sv x.seen) (he : x.said = (m.hd i).said) :
    MachAt Z (upd H a.h (.ins Z.H a.dx (hf a sv x))) A (m.setH i x) ∧ Chg A.owns H (upd H a.h (.ins Z.H a.dx (hf a sv x))) := by
  have hl : i < m.hands.length := by
    rw [← T.hs]
    exact (List.getElem?_eq_some_iff.mp h).1
  refine T.put (r := .hand i) (by simp [MA.at, h]) (fun _ t => ⟨a, sv, h, by rw [M.setH_hd hl], by rw [M.setH_hd hl]; exact hs.mono t⟩) (fun r' u ne hc => ?_) rfl M.setH_len rfl
  cases r' with
  | hand j =>
    have e : j ≠ i := fun e => ne (by rw [e])
    show ∃ a sv, _
    rw [M.setH_ne hl e]
    exact hc
  | said j =>
    show u = _
    by_cases e : j = i
    · subst e
      rw [M.setH_hd hl, he]
      exact hc
    · rw [M.setH_ne hl e]
      exact hc
  | _ => exact hc
/-- what a hand has said -/
theorem MachAt.setSaid (T : MachAt Z H A m) {i : Nat} {a : HA} (h : A.hs[i]? = some a) (w : List Ans) :
    MachAt Z (upd H a.said (.lst (w.map ansV))) A (m.setH i { m.hd i with said := w }) ∧ Chg A.owns H (upd H a.said (.lst (w.map ansV))) := by
  have hl : i < m.hands.length := by
    rw [← T.hs]
    exact (List.getElem?_eq_some_iff.mp h).1
  refine T.put (r := .said i) (by simp [MA.at, h]) (fun _ t => by show _ = _; rw [M.setH_hd hl]) (fun r' u ne hc => ?_) rfl M.setH_len rfl
  cases r' with
  | hand j =>
    by_cases e : j = i
    · subst e
      obtain ⟨a', sv, h1, h2, h3⟩ := hc
      exact ⟨a', sv, h1, by rw [M.setH_hd hl]; exact h2, by rw [M.setH_hd hl]; exact h3⟩
    · show ∃ a sv, _
      rw [M.setH_ne hl e]
      exact hc
  | said j =>
    have e : j ≠ i := fun e => ne (by rw [e])
    show u = _
    rw [M.setH_ne hl e]
    exact hc
  | _ => exact hc
end
end SS

set_option Elab.async false
set_option linter.all false
set_option maxRecDepth 100000
set_option maxHeartbeats 4000000
namespace SS
open PySem L2

/-- what the classes are -/
structure ZOk (Z : Cs) : Prop where
  clM : Cls Z.K Z.M
  clH : Cls Z.K Z.H
  m_rule : NoAttr Z.K Z.M "rule"
  m_worths : NoAttr Z.K Z.M "worths"
  m_links : NoAttr Z.K Z.M "links"
  m_top : NoAttr Z.K Z.M "top"
  m_count : NoAttr Z.K Z.M "count"
  m_freed : NoAttr Z.K Z.M "freed"
  m_hands : NoAttr Z.K Z.M "hands"
  m_ends : NoAttr Z.K Z.M "ends"
  m_strayed : NoAttr Z.K Z.M "strayed"
  h_program : NoAttr Z.K Z.H "program"
  h_at : NoAttr Z.K Z.H "at"
  h_cell : NoAttr Z.K Z.H "cell"
  h_seen : NoAttr Z.K Z.H "seen"
  h_follow : NoAttr Z.K Z.H "follow"
  h_mark : NoAttr Z.K Z.H "mark"
  h_looked : NoAttr Z.K Z.H "looked"
  h_said : NoAttr Z.K Z.H "said"

abbrev HandO (Z : Cs) (H : Hp) (a : HA) (sv : V) (x : Hd) : Prop := H a.h = some (.ins Z.H a.dx (hf a sv x))

section
variable {Z : Cs} {H : Hp} {A : MA} {m : M} {s : L2.St} {ta tb te : TE} {a : HA} {sv : V} {x : Hd} {i : Nat} {v : V}
/-! ### fields read -/
theorem em_rule (k : ZOk Z) (T : MachAt Z H A m) (e : Ev ta s H (.ref A.p)) : Ev (tFld Z.K ta "rule") s H (.ref A.rule) := ev_fld e T.obj k.clM k.m_rule (mf_rule _ _)
theorem em_worths (k : ZOk Z) (T : MachAt Z H A m) (e : Ev ta s H (.ref A.p)) : Ev (tFld Z.K ta "worths") s H (.ref A.worths) := ev_fld e T.obj k.clM k.m_worths (mf_worths _ _)
theorem em_links (k : ZOk Z) (T : MachAt Z H A m) (e : Ev ta s H (.ref A.p)) : Ev (tFld Z.K ta "links") s H (.ref A.links) := ev_fld e T.obj k.clM k.m_links (mf_links _ _)
theorem em_top (k : ZOk Z) (T : MachAt Z H A m) (e : Ev ta s H (.ref A.p)) : Ev (tFld Z.K ta "top") s H (.int m.top) := ev_fld e T.obj k.clM k.m_top (mf_top _ _)
theorem em_count (k : ZOk Z) (T : MachAt Z H A m) (e : Ev ta s H (.ref A.p)) : Ev (tFld Z.K ta "count") s H (.int m.count) := ev_fld e T.obj k.clM k.m_count (mf_count _ _)
theorem em_freed (k : ZOk Z) (T : MachAt Z H A m) (e : Ev ta s H (.ref A.p)) : Ev (tFld Z.K ta "freed") s H (.ref A.freed) := ev_fld e T.obj k.clM k.m_freed (mf_freed _ _)
theorem em_hands (k : ZOk Z) (T : MachAt Z H A m) (e : Ev ta s H (.ref A.p)) : Ev (tFld Z.K ta "hands") s H (.ref A.handsL) := ev_fld e T.obj k.clM k.m_hands (mf_hands _ _)
theorem em_ends (k : ZOk Z) (T : MachAt Z H A m) (e : Ev ta s H (.ref A.p)) : Ev (tFld Z.K ta "ends") s H (.ref A.ends) := ev_fld e T.obj k.clM k.m_ends (mf_ends _ _)
theorem em_strayed (k : ZOk Z) (T : MachAt Z H A m) (e : Ev ta s H (.ref A.p)) : Ev (tFld Z.K ta "strayed") s H (.bl m.strayed) := ev_fld e T.obj k.clM k.m_strayed (mf_strayed _ _)
theorem eh_program (k : ZOk Z) (O : HandO Z H a sv x) (e : Ev ta s H (.ref a.h)) : Ev (tFld Z.K ta "program") s H (.ref a.prog) := ev_fld e O k.clH k.h_program (hf_program _ _ _)
theorem eh_at (k : ZOk Z) (O : HandO Z H a sv x) (e : Ev ta s H (.ref a.h)) : Ev (tFld Z.K ta "at") s H (.int x.at_) := ev_fld e O k.clH k.h_at (hf_at _ _ _)
theorem eh_cell (k : ZOk Z) (O : HandO Z H a sv x) (e : Ev ta s H (.ref a.h)) : Ev (tFld Z.K ta "cell") s H (.int x.cell) := ev_fld e O k.clH k.h_cell (hf_cell _ _ _)
theorem eh_seen (k : ZOk Z) (O : HandO Z H a sv x) (e : Ev ta s H (.ref a.h)) : Ev (tFld Z.K ta "seen") s H sv := ev_fld e O k.clH k.h_seen (hf_seen _ _ _)
theorem eh_follow (k : ZOk Z) (O : HandO Z H a sv x) (e : Ev ta s H (.ref a.h)) : Ev (tFld Z.K ta "follow") s H (optV x.follow) := ev_fld e O k.clH k.h_follow (hf_follow _ _ _)
theorem eh_mark (k : ZOk Z) (O : HandO Z H a sv x) (e : Ev ta s H (.ref a.h)) : Ev (tFld Z.K ta "mark") s H (.int x.mark) := ev_fld e O k.clH k.h_mark (hf_mark _ _ _)
theorem eh_looked (k : ZOk Z) (O : HandO Z H a sv x) (e : Ev ta s H (.ref a.h)) : Ev (tFld Z.K ta "looked") s H (.bl x.looked) := ev_fld e O k.clH k.h_looked (hf_looked _ _ _)
theorem eh_said (k : ZOk Z) (O : HandO Z H a sv x) (e : Ev ta s H (.ref a.h)) : Ev (tFld Z.K ta "said") s H (.ref a.said) := ev_fld e O k.clH k.h_said (hf_said _ _ _)
/-- self.hands[hand] -/
theorem em_hand (k : ZOk Z) (T : MachAt Z H A m) (h : A.hs[i]? = some a) (e : Ev ta s H (.ref A.p)) (ei : Ev tb s H (.int i)) : Ev (tOp (rIxL Z.K) (tFld Z.K ta "hands") tb) s H (.ref a.h) :=
  ev_ixL (em_hands k T e) ei (SqL.of T.handsLL) (handV h)

/-! ### fields stored: the hand at i is x -/
variable {D : Ends}
theorem hf_len : (hf a sv x).length < 1000 := by show 8 < 1000; decide
theorem mf_len : (mf A m).length < 1000 := by show 9 < 1000; decide
theorem MachAt.len {m : M} (T : MachAt Z H A m) {i : Nat} (h : A.hs[i]? = some a) : i < m.hands.length := by
  rw [← T.hs]
  exact (List.getElem?_eq_some_iff.mp h).1
/-- any store into a hand's attributes but program, said -/
theorem sh_any {f : Str} (k : ZOk Z) (T : MachAt Z H A (m.setH i x)) (h : A.hs[i]? = some a) (O : HandO Z H a sv x) (nf : NoAttr Z.K Z.H f) {x' : Hd} {sv' : V} (e : putF f v (hf a sv x) = hf a sv' x')
    (hs : SeenAt H sv' x'.seen) (hd : x'.said = x.said) (hv : Ev te s H v) (ea : Ev ta s H (.ref a.h))
    (c : ∀ H', MachAt Z H' A (m.setH i x') → Chg A.owns H H' → HandO Z H' a sv' x' → D.nx s H') : sFld Z.K ta te f D s H := by
  refine s_fld hv ea O k.clH nf hf_len ?_
  rw [e]
  have hl : i < m.hands.length := by
    have := T.len h
    rw [M.setH_len] at this
    exact this
  obtain ⟨T', C⟩ := T.setHand (sv := sv') (x := x') h hs (by rw [M.setH_hd hl]; exact hd)
  rw [M.setH_setH] at T'
  exact c _ T' C upd_same
theorem sh_at {n : Nat} (k : ZOk Z) (T : MachAt Z H A (m.setH i x)) (h : A.hs[i]? = some a) (O : HandO Z H a sv x) (hs : SeenAt H sv x.seen) (hv : Ev te s H (.int n)) (ea : Ev ta s H (.ref a.h))
    (c : ∀ H', MachAt Z H' A (m.setH i { x with at_ := n }) → Chg A.owns H H' → HandO Z H' a sv { x with at_ := n } → D.nx s H') : sFld Z.K ta te "at" D s H := sh_any k T h O k.h_at (pf_at a sv x n) hs rfl hv ea c
theorem sh_cell {n : Nat} (k : ZOk Z) (T : MachAt Z H A (m.setH i x)) (h : A.hs[i]? = some a) (O : HandO Z H a sv x) (hs : SeenAt H sv x.seen) (hv : Ev te s H (.int n)) (ea : Ev ta s H (.ref a.h))
    (c : ∀ H', MachAt Z H' A (m.setH i { x with cell := n }) → Chg A.owns H H' → HandO Z H' a sv { x with cell := n } → D.nx s H') : sFld Z.K ta te "cell" D s H := sh_any k T h O k.h_cell (pf_cell a sv x n) hs rfl hv ea c
theorem pf_seenX (o : Option (Nat × Nat)) : putF "seen" v (hf a sv x) = hf a v { x with seen := o } := by rw [pf_seen]; rfl
theorem sh_seen {o : Option (Nat × Nat)} (k : ZOk Z) (T : MachAt Z H A (m.setH i x)) (h : A.hs[i]? = some a) (O : HandO Z H a sv x) (hs : SeenAt H v o) (hv : Ev te s H v) (ea : Ev ta s H (.ref a.h))
    (c : ∀ H', MachAt Z H' A (m.setH i { x with seen := o }) → Chg A.owns H H' → HandO Z H' a v { x with seen := o } → D.nx s H') : sFld Z.K ta te "seen" D s H := sh_any k T h O k.h_seen (pf_seenX o) hs rfl hv ea c
theorem sh_follow {o : Option Nat} (k : ZOk Z) (T : MachAt Z H A (m.setH i x)) (h : A.hs[i]? = some a) (O : HandO Z H a sv x) (hs : SeenAt H sv x.seen) (hv : Ev te s H (optV o)) (ea : Ev ta s H (.ref a.h))
    (c : ∀ H', MachAt Z H' A (m.setH i { x with follow := o }) → Chg A.owns H H' → HandO Z H' a sv { x with follow := o } → D.nx s H') : sFld Z.K ta te "follow" D s H := sh_any k T h O k.h_follow (pf_follow a sv x o) hs rfl hv ea c
theorem sh_mark {n : Nat} (k : ZOk Z) (T : MachAt Z H A (m.setH i x)) (h : A.hs[i]? = some a) (O : HandO Z H a sv x) (hs : SeenAt H sv x.seen) (hv : Ev te s H (.int n)) (ea : Ev ta s H (.ref a.h))
    (c : ∀ H', MachAt Z H' A (m.setH i { x with mark := n }) → Chg A.owns H H' → HandO Z H' a sv { x with mark := n } → D.nx s H') : sFld Z.K ta te "mark" D s H := sh_any k T h O k.h_mark (pf_mark a sv x n) hs rfl hv ea c
theorem sh_looked {b : Bool} (k : ZOk Z) (T : MachAt Z H A (m.setH i x)) (h : A.hs[i]? = some a) (O : HandO Z H a sv x) (hs : SeenAt H sv x.seen) (hv : Ev te s H (.bl b)) (ea : Ev ta s H (.ref a.h))
    (c : ∀ H', MachAt Z H' A (m.setH i { x with looked := b }) → Chg A.owns H H' → HandO Z H' a sv { x with looked := b } → D.nx s H') : sFld Z.K ta te "looked" D s H := sh_any k T h O k.h_looked (pf_looked a sv x b) hs rfl hv ea c
/-- one.said.append(answer) -/
theorem sh_said {w : Ans} (k : ZOk Z) (T : MachAt Z H A (m.setH i x)) (h : A.hs[i]? = some a) (O : HandO Z H a sv x) (hs : SeenAt H sv x.seen) (hz : x.said.length < 1000) (hv : Ev te s H (ansV w)) (ea : Ev ta s H (.ref a.h))
    (c : ∀ H', MachAt Z H' A (m.setH i { x with said := x.said ++ [w] }) → Chg A.owns H H' → HandO Z H' a sv { x with said := x.said ++ [w] } → D.nx s H') :
    tDrop (tBM Z.K "list" rAppend (tFld Z.K ta "said") (tCons te tNil)) D s H := by
  have hl : i < m.hands.length := by
    have := T.len h
    rw [M.setH_len] at this
    exact this
  have L := T.saidL h
  rw [M.setH_hd hl] at L
  refine s_app (eh_said k O ea) L hv (by rw [List.length_map]; exact Nat.lt_of_lt_of_le hz (by decide)) ?_
  obtain ⟨T', C⟩ := T.setSaid h (x.said ++ [w])
  rw [M.setH_hd hl, M.setH_setH] at T'
  rw [List.map_append] at T' C
  obtain ⟨sv2, O2, _⟩ := T'.handO h
  rw [M.setH_hd hl] at O2
  have e : sv2 = sv := by
    have hne : a.h ≠ a.said := ne_of O L (by intro z; cases z)
    have O' := C.keep
    have O3 : upd H a.said (.lst (x.said.map ansV ++ [ansV w])) a.h = some (.ins Z.H a.dx (hf a sv x)) := by rw [upd_ne hne]; exact O
    have O4 := O2.symm.trans O3
    have l1 := congrArg (fun o : Option HO => match o with | some (.ins _ _ fs) => fs.lookup ("seen" : Str) | _ => none) O4
    have l2 : some sv2 = some sv := l1
    exact Option.some.inj l2
  rw [e] at O2
  exact c _ T' C O2
/-! ### the machine's own -/
theorem MachAt.hO {m : M} (T : MachAt Z H A (m.setH i x)) (h : A.hs[i]? = some a) : ∃ sv, HandO Z H a sv x ∧ SeenAt H sv x.seen := by
  have hl : i < m.hands.length := by
    have := T.len h
    rw [M.setH_len] at this
    exact this
  have := T.handO h
  rw [M.setH_hd hl] at this
  exact this
theorem sm_any {f : Str} (k : ZOk Z) (T : MachAt Z H A m) (nf : NoAttr Z.K Z.M f) {t c : Nat} {b : Bool} (e : putF f v (mf A m) = mf A { m with top := t, count := c, strayed := b }) (hv : Ev te s H v) (ea : Ev ta s H (.ref A.p))
    (q : ∀ H', MachAt Z H' A { m with top := t, count := c, strayed := b } → Chg A.owns H H' → (∀ (j : Nat) (b : HA) (sv : V) (x : Hd), A.hs[j]? = some b → HandO Z H b sv x → HandO Z H' b sv x) → D.nx s H') : sFld Z.K ta te f D s H := by
  refine s_fld hv ea T.obj k.clM nf mf_len ?_
  rw [e]
  obtain ⟨T', C⟩ := T.setM t c b
  refine q _ T' C fun i a sv x h O => ?_
  have hne : a.h ≠ A.p := fun z => by
    have := T.sep (.hand i) .m a.h (by simp [MA.at, h]) (by rw [z]; rfl)
    cases this
  show upd _ _ _ _ = _
  rw [upd_ne hne]
  exact O
theorem sm_top {t : Nat} (k : ZOk Z) (T : MachAt Z H A m) (hv : Ev te s H (.int t)) (ea : Ev ta s H (.ref A.p))
    (q : ∀ H', MachAt Z H' A { m with top := t } → Chg A.owns H H' → (∀ (j : Nat) (b : HA) (sv : V) (x : Hd), A.hs[j]? = some b → HandO Z H b sv x → HandO Z H' b sv x) → D.nx s H') : sFld Z.K ta te "top" D s H :=
  sm_any (t := t) (c := m.count) (b := m.strayed) k T k.m_top (pf_top A m t) hv ea q
theorem sm_count {t : Nat} (k : ZOk Z) (T : MachAt Z H A m) (hv : Ev te s H (.int t)) (ea : Ev ta s H (.ref A.p))
    (q : ∀ H', MachAt Z H' A { m with count := t } → Chg A.owns H H' → (∀ (j : Nat) (b : HA) (sv : V) (x : Hd), A.hs[j]? = some b → HandO Z H b sv x → HandO Z H' b sv x) → D.nx s H') : sFld Z.K ta te "count" D s H :=
  sm_any (t := m.top) (c := t) (b := m.strayed) k T k.m_count (pf_count A m t) hv ea q
theorem sm_strayed {t : Bool} (k : ZOk Z) (T : MachAt Z H A m) (hv : Ev te s H (.bl t)) (ea : Ev ta s H (.ref A.p))
    (q : ∀ H', MachAt Z H' A { m with strayed := t } → Chg A.owns H H' → (∀ (j : Nat) (b : HA) (sv : V) (x : Hd), A.hs[j]? = some b → HandO Z H b sv x → HandO Z H' b sv x) → D.nx s H') : sFld Z.K ta te "strayed" D s H :=
  sm_any (t := m.top) (c := m.count) (b := t) k T k.m_strayed (pf_strayed A m t) hv ea q
end
end SS

set_option Elab.async false
set_option linter.all false
set_option maxRecDepth 100000
set_option maxHeartbeats 4000000
namespace SS
open PySem L2

/-! ### what a step tells -/
def tellVs : Tell → List V
  | .rests => [.str "rests"]
  | .takes c => [.str "takes", natV c]
  | .reads t => [.str "reads", natV t]
  | .ends a => [.str "ends", ansV a]
  | .links t => [.str "links", natV t]
  | .marks c => [.str "marks", natV c]
  | .looks b => [.str "looks", .bl b]
  | .follows n => [.str "follows", natV n]
  | .exchanges n => [.str "exchanges", natV n]
  | .misses => [.str "misses"]
def TellAt (H : Hp) (v : V) (t : Tell) : Prop := ∃ q, v = .ref q ∧ H q = some (.tup (tellVs t))

/-! ### promises -/
def ProgAt (H : Hp) (v : V) (ds : List Deed) : Prop := ∃ q us, v = .ref q ∧ H q = some (.lst us) ∧ All2 (DeedAt H) us ds
def ProgsAt (K : PySem.W.Frag) (H : Hp) (l : Addr) (ps : List (List Deed)) : Prop := ∃ us, SqL K H l us ∧ All2 (ProgAt H) us ps
def sp_need_values (Z : Cs) : Sp := fun vs H Q _ => ∃ (a : Addr) (ns : List Int), vs = [.ref a] ∧ SqL Z.K H a (ns.map V.int) ∧ ns.length ≤ 6 ∧ (∀ v ∈ ns, okVal v) ∧ Q .non H
def sp_is_deed (Z : Cs) : Sp := fun vs H Q _ => ∃ (v : V) (d : Deed), vs = [v] ∧ DeedAt H v d ∧ okDeed d ∧ Q (.bl true) H
def sp_need_deeds (Z : Cs) : Sp := fun vs H Q _ => ∃ (v : V) (h : Nat) (ds : List Deed), vs = [v, .int h] ∧ ProgAt H v ds ∧ ds.length ≤ 1000 ∧ (∀ d ∈ ds, okDeed d) ∧ Q .non H
def sp_need_programs (Z : Cs) : Sp := fun vs H Q _ => ∃ (l : Addr) (ps : List (List Deed)), vs = [.ref l] ∧ ProgsAt Z.K H l ps ∧ (1 ≤ ps.length ∧ ps.length ≤ 3) ∧ (∀ p ∈ ps, p.length ≤ 4) ∧ (∀ p ∈ ps, ∀ d ∈ p, okDeed d) ∧ Q .non H
def sp_need_rule (Z : Cs) : Sp := fun vs H Q _ => ∃ (a : Addr) (r : Rule) (many : Nat), vs = [.ref a, .int many] ∧ RuleAt H a r ∧ okRule many r ∧ ∀ H', Same H H' → Q .non H'
def sp_H_init (Z : Cs) : Sp := fun vs H Q _ => ∃ (p dx l : Addr) (us : List V) (ds : List Deed), vs = [.ref p, .ref l] ∧ H p = some (.ins Z.H dx []) ∧ H l = some (.lst us) ∧ All2 (DeedAt H) us ds ∧
  ∀ (a : HA) H', a.h = p → H a.prog = none → H a.said = none → a.prog ≠ a.said → HandO Z H' a .non {} → H' a.prog = some (.lst us) → H' a.said = some (.lst []) → (∀ b o, H b = some o → b ≠ p → H' b = some o) → Q .non H'
def sp_M_init (Z : Cs) : Sp := fun vs H Q _ => ∃ (p dx lv lp lr : Addr) (values : List Int) (ps : List (List Deed)) (r : Rule), vs = [.ref p, .ref lv, .ref lp, .ref lr] ∧ H p = some (.ins Z.M dx []) ∧
  SqL Z.K H lv (values.map V.int) ∧ ProgsAt Z.K H lp ps ∧ RuleAt H lr r ∧ okIn values ps r ∧
  ∀ (A : MA) H', A.p = p → (∀ a, A.owns a → a ≠ p → H a = none) → MachAt Z H' A (M.begin_ values ps r) → (∀ b o, H b = some o → b ≠ p → H' b = some o) → Q .non H'

def sp_M_need_hand (Z : Cs) : Sp := fun vs H Q _ => ∃ (A : MA) (m : M) (h : Nat) (a : HA), vs = [.ref A.p, .int h] ∧ MachAt Z H A m ∧ A.hs[h]? = some a ∧ Q (.ref a.h) H
def sp_M_rests (Z : Cs) : Sp := fun vs H Q _ => ∃ (A : MA) (m : M) (h : Nat) (a : HA), vs = [.ref A.p, .int h] ∧ MachAt Z H A m ∧ A.hs[h]? = some a ∧ Q (.bl (m.rests h)) H
def sp_M_marks (Z : Cs) : Sp := fun vs H Q _ => ∃ (A : MA) (m : M), vs = [.ref A.p] ∧ MachAt Z H A m ∧ m.hands.length ≤ 1000 ∧ ∀ l H', H l = none → Same H H' → H' l = some (.lst (m.marked.map natV)) → Q (.ref l) H'
def sp_M_taken (Z : Cs) : Sp := fun vs H Q _ => ∃ (A : MA) (m : M) (v : Int), vs = [.ref A.p, .int v] ∧ MachAt Z H A m ∧ m.hands.length ≤ 1000 ∧ m.worths.length < 1000 ∧ m.links.length < 1000 ∧ m.freed.length ≤ 1000 ∧ (∀ c ∈ m.freed, 1 ≤ c ∧ c ≤ m.worths.length) ∧
  ∀ H', MachAt Z H' A (m.taken v).2 → Chg A.owns H H' → Q (.int (m.taken v).1) H'
def sp_M_forget (Z : Cs) : Sp := fun vs H Q _ => ∃ (A : MA) (m : M) (h : Nat) (a : HA), vs = [.ref A.p, .int h] ∧ MachAt Z H A m ∧ A.hs[h]? = some a ∧
  ∀ H', MachAt Z H' A (m.setH h (m.hd h).forgot) → Chg A.owns H H' → Q .non H'
def sp_M_ended (Z : Cs) : Sp := fun vs H Q _ => ∃ (A : MA) (m : M) (h : Nat) (a : HA) (w : Ans), vs = [.ref A.p, .int h, ansV w] ∧ MachAt Z H A m ∧ A.hs[h]? = some a ∧ (m.hd h).said.length < 1000 ∧
  ∀ H' v, MachAt Z H' A (m.endedH h w) → Chg A.owns H H' → TellAt H' v (.ends w) → Q v H'
def sp_M_read (Z : Cs) : Sp := fun vs H Q _ => ∃ (A : MA) (m : M) (h : Nat) (a : HA) (d : Deed), vs = [.ref A.p, .int h] ∧ MachAt Z H A m ∧ A.hs[h]? = some a ∧ (m.prog h)[(m.hd h).at_]? = some d ∧ (m.hd h).said.length < 1000 ∧ m.ends.length < 1000 ∧
  ∀ H' v, MachAt Z H' A (m.read h d).2 → Chg A.owns H H' → TellAt H' v (m.read h d).1 → Q v H'
def sp_M_exchange (Z : Cs) : Sp := fun vs H Q _ => ∃ (A : MA) (m : M) (h c : Nat) (a : HA), vs = [.ref A.p, .int h, .int c] ∧ MachAt Z H A m ∧ A.hs[h]? = some a ∧ m.ends.length < 1000 ∧ okCount m ∧
  ∀ H', MachAt Z H' A (m.exch h c).2 → Chg A.owns H H' → Q (.bl (m.exch h c).1) H'
def sp_M_push (Z : Cs) : Sp := fun vs H Q _ => ∃ (A : MA) (m : M) (h t k : Nat) (a : HA), vs = [.ref A.p, .int h] ∧ MachAt Z H A m ∧ A.hs[h]? = some a ∧ (m.hd h).seen = some (t, k) ∧ (1 ≤ (m.hd h).cell ∧ (m.hd h).cell ≤ m.links.length) ∧
  (m.hd h).said.length < 1000 ∧ m.ends.length < 1000 ∧ okCount m ∧ ∀ H' v, MachAt Z H' A (m.push h t).2 → Chg A.owns H H' → TellAt H' v (m.push h t).1 → Q v H'
def sp_M_guard (Z : Cs) : Sp := fun vs H Q _ => ∃ (A : MA) (m : M) (h c : Nat) (a : HA), vs = [.ref A.p, .int h, .int c] ∧ MachAt Z H A m ∧ A.hs[h]? = some a ∧
  ∀ H' v, MachAt Z H' A (m.guard h c).2 → Chg A.owns H H' → TellAt H' v (m.guard h c).1 → Q v H'
def sp_M_pop (Z : Cs) : Sp := fun vs H Q _ => ∃ (A : MA) (m : M) (h t k : Nat) (a : HA), vs = [.ref A.p, .int h] ∧ MachAt Z H A m ∧ A.hs[h]? = some a ∧ (m.hd h).seen = some (t, k) ∧ (1 ≤ t ∧ t ≤ m.links.length) ∧ (m.hd h).cell ≤ m.worths.length ∧
  (m.hd h).said.length < 1000 ∧ m.ends.length < 1000 ∧ m.freed.length < 1000 ∧ okCount m ∧ ∀ H' v, MachAt Z H' A (m.pop h t).2 → Chg A.owns H H' → TellAt H' v (m.pop h t).1 → Q v H'
def sp_M_turn (Z : Cs) : Sp := fun vs H Q _ => ∃ (A : MA) (m : M) (h : Nat), vs = [.ref A.p, .int h] ∧ MachAt Z H A m ∧ Wf m ∧ h < m.hands.length ∧
  ∀ H' v, MachAt Z H' A (m.turn h).2 → Chg A.owns H H' → TellAt H' v (m.turn h).1 → (m.rests h = true → Same H H') → Q v H'

/-! ### what is told of the machine as it stands -/
def sp_M_is_done (Z : Cs) : Sp := fun vs H Q _ => ∃ (A : MA) (m : M), vs = [.ref A.p] ∧ MachAt Z H A m ∧ m.hands.length ≤ 1000 ∧ ∀ H', Same H H' → Q (.bl m.isDone) H'
def sp_M_is_stale (Z : Cs) : Sp := fun vs H Q _ => ∃ (A : MA) (m : M), vs = [.ref A.p] ∧ MachAt Z H A m ∧ Q (.bl m.strayed) H
def sp_M_answers (Z : Cs) : Sp := fun vs H Q _ => ∃ (A : MA) (m : M) (h : Nat) (a : HA), vs = [.ref A.p, .int h] ∧ MachAt Z H A m ∧ A.hs[h]? = some a ∧ ∀ l, H l = none → Q (.ref l) (upd H l (.lst ((m.hd h).said.map ansV)))
def sp_M_marked (Z : Cs) : Sp := fun vs H Q _ => ∃ (A : MA) (m : M) (h : Nat) (a : HA), vs = [.ref A.p, .int h] ∧ MachAt Z H A m ∧ A.hs[h]? = some a ∧ Q (.int (m.hd h).mark) H
def sp_M_order (Z : Cs) : Sp := fun vs H Q _ => ∃ (A : MA) (m : M), vs = [.ref A.p] ∧ MachAt Z H A m ∧ ∀ l us, H l = none → All2 (PairAt H) us m.ends → Q (.ref l) (upd H l (.lst us))
def sp_M_free (Z : Cs) : Sp := fun vs H Q _ => ∃ (A : MA) (m : M), vs = [.ref A.p] ∧ MachAt Z H A m ∧ ∀ l, H l = none → Q (.ref l) (upd H l (.lst (m.freed.map natV)))
def sp_M_top_now (Z : Cs) : Sp := fun vs H Q _ => ∃ (A : MA) (m : M), vs = [.ref A.p] ∧ MachAt Z H A m ∧ ∀ l, H l = none → Q (.ref l) (upd H l (.tup [natV m.top, natV m.count]))
def sp_M_nexts (Z : Cs) : Sp := fun vs H Q _ => ∃ (A : MA) (m : M), vs = [.ref A.p] ∧ MachAt Z H A m ∧ ∀ l, H l = none → Q (.ref l) (upd H l (.lst (m.links.map natV)))
def sp_M_pile (Z : Cs) : Sp := fun vs H Q _ => ∃ (A : MA) (m : M), vs = [.ref A.p] ∧ MachAt Z H A m ∧ PileOk m ∧ ∀ l H', H l = none → Same H H' → H' l = some (.lst (m.pile.map natV)) → Q (.ref l) H'
def sp_M_pile_values (Z : Cs) : Sp := fun vs H Q _ => ∃ (A : MA) (m : M), vs = [.ref A.p] ∧ MachAt Z H A m ∧ PileOk m ∧ ∀ l H', H l = none → Same H H' → H' l = some (.lst (m.pileValues.map V.int)) → Q (.ref l) H'

/-! ### readings (printed) -/
/-- need_values: 0 values, 1 at -/
def t_need_values (Z : Cs) : TS :=
  tSeq (tIfS (tTest (tOp rGtI (tCB (rLen1 Z.K) (tCons (tVar 0) tNil)) (tC (.int 6)))) ((tNever)) (tNext))
    ((tFor (iRng1 (tCons (tCB (rLen1 Z.K) (tCons (tVar 0) tNil)) tNil)) (gName 1) ((tIfS (tNot (tTest (tChain rLeI rLeI (tC (.int 0)) (tOp (rIxL Z.K) (tVar 0) (tVar 1)) (tC (.int 99))))) ((tNever)) (tNext)))))
/-- is_deed: 0 deed -/
def t_is_deed (Z : Cs) : TS :=
  tSeq (tIfS (tTest (tOp rEq (tCB (rLen1 Z.K) (tCons (tVar 0) tNil)) (tC (.int 0)))) ((tRet (tC (.bl false)))) (tNext))
    (tSeq (tIfS (tTest (tOp rEq (tOp (rIxT Z.K) (tVar 0) (tC (.int 0))) (tC (.str "pop")))) ((tRet (tOp rEq (tCB (rLen1 Z.K) (tCons (tVar 0) tNil)) (tC (.int 1))))) (tNext))
    ((tRet (tAndV (tOp rEq (tOp (rIxT Z.K) (tVar 0) (tC (.int 0))) (tC (.str "push"))) (tAndV (tOp rEq (tCB (rLen1 Z.K) (tCons (tVar 0) tNil)) (tC (.int 2))) (tChain rLeI rLeI (tC (.int 0)) (tOp (rIxT Z.K) (tVar 0) (tC (.int 1))) (tC (.int 99))))))))
/-- need_deeds: 0 deeds, 1 hand, 2 number -/
def t_need_deeds (Z : Cs) : TS :=
  (tFor (iRng1 (tCons (tCB (rLen1 Z.K) (tCons (tVar 0) tNil)) tNil)) (gName 2) ((tIfS (tNot (tB (tCall (sp_is_deed Z) [] E0 (tCons (tOp (rIxL Z.K) (tVar 0) (tVar 2)) tNil)))) ((tNever)) (tNext))))
/-- need_programs: 0 programs, 1 hand -/
def t_need_programs (Z : Cs) : TS :=
  tSeq (tIfS (tNot (tTest (tChain rLeI rLeI (tC (.int 1)) (tCB (rLen1 Z.K) (tCons (tVar 0) tNil)) (tC (.int 3))))) ((tNever)) (tNext))
    ((tFor (iRng1 (tCons (tCB (rLen1 Z.K) (tCons (tVar 0) tNil)) tNil)) (gName 1) (tSeq (tIfS (tTest (tOp rGtI (tCB (rLen1 Z.K) (tCons (tOp (rIxL Z.K) (tVar 0) (tVar 1)) tNil)) (tC (.int 4)))) ((tNever)) (tNext))
    ((tDrop (tCall (sp_need_deeds Z) [] E0 (tCons (tOp (rIxL Z.K) (tVar 0) (tVar 1)) (tCons (tVar 1) tNil))))))))
/-- need_rule: 0 rule, 1 many, 2 at -/
def t_need_rule (Z : Cs) : TS :=
  tSeq (tIfS (tTest (tOp (rEqD Z.K) (tVar 0) (tTup (tCons (tC (.str "keeps")) tNil)))) ((tRetN)) (tNext))
    (tSeq (tIfS ((tOr (tTest (tOp rNe (tCB (rLen1 Z.K) (tCons (tVar 0) tNil)) (tC (.int 2)))) (tTest (tOp (rIn Z.K true) (tOp (rIxT Z.K) (tVar 0) (tC (.int 0))) (tTup (tCons (tC (.str "counts")) (tCons (tC (.str "marks")) tNil))))))) ((tNever)) (tNext))
    ((tIfS (tTest (tOp rEq (tOp (rIxT Z.K) (tVar 0) (tC (.int 0))) (tC (.str "counts")))) ((tIfS (tNot (tTest (tChain rLeI rLeI (tC (.int 1)) (tOp (rIxT Z.K) (tVar 0) (tC (.int 1))) (tC (.int 15))))) ((tNever)) (tNext))) ((tFor (iRng1 (tCons (tCB (rLen1 Z.K) (tCons (tOp (rIxT Z.K) (tVar 0) (tC (.int 1))) tNil)) tNil)) (gName 2) ((tIfS ((tOr (tNot (tTest (tChain rLeI rLtI (tC (.int 0)) (tOp (rIxT Z.K) (tOp (rIxT Z.K) (tVar 0) (tC (.int 1))) (tVar 2)) (tVar 1)))) ((tAnd (tTest (tOp rGtI (tVar 2) (tC (.int 0)))) (tTest (tOp rLeI (tOp (rIxT Z.K) (tOp (rIxT Z.K) (tVar 0) (tC (.int 1))) (tVar 2)) (tOp (rIxT Z.K) (tOp (rIxT Z.K) (tVar 0) (tC (.int 1))) (tOp rSubI (tVar 2) (tC (.int 1)))))))))) ((tNever)) (tNext))))))))
/-- Hand.__init__: 0 self, 1 program -/
def t_H_init (Z : Cs) : TS :=
  tSeq (sFld Z.K (tVar 0) (tCB (rListOf Z.K) (tCons (tVar 1) tNil)) "program")
    (tSeq (sFld Z.K (tVar 0) (tC (.int 0)) "at")
    (tSeq (sFld Z.K (tVar 0) (tC (.int 0)) "cell")
    (tSeq (sFld Z.K (tVar 0) (tC .non) "seen")
    (tSeq (sFld Z.K (tVar 0) (tC .non) "follow")
    (tSeq (sFld Z.K (tVar 0) (tC (.int 0)) "mark")
    (tSeq (sFld Z.K (tVar 0) (tC (.bl false)) "looked")
    ((sFld Z.K (tVar 0) (tLst tNil) "said"))))))))
/-- Machine.__init__: 0 self, 1 values, 2 programs, 3 rule, 4 program -/
def t_M_init (Z : Cs) : TS :=
  tSeq (tDrop (tCall (sp_need_values Z) [] E0 (tCons (tVar 1) tNil)))
    (tSeq (tDrop (tCall (sp_need_programs Z) [] E0 (tCons (tVar 2) tNil)))
    (tSeq (tDrop (tCall (sp_need_rule Z) [] E0 (tCons (tVar 3) (tCons (tCB (rLen1 Z.K) (tCons (tVar 2) tNil)) tNil))))
    (tSeq (sFld Z.K (tVar 0) (tVar 3) "rule")
    (tSeq (sFld Z.K (tVar 0) (tCB (rListOf Z.K) (tCons (tVar 1) tNil)) "worths")
    (tSeq (sFld Z.K (tVar 0) (tLstRg (tRg1 (tCB (rLen1 Z.K) (tCons (tVar 1) tNil)))) "links")
    (tSeq (sFld Z.K (tVar 0) (tCB (rLen1 Z.K) (tCons (tVar 1) tNil)) "top")
    (tSeq (sFld Z.K (tVar 0) (tC (.int 0)) "count")
    (tSeq (sFld Z.K (tVar 0) (tLst tNil) "freed")
    (tSeq (sFld Z.K (tVar 0) (tLc (iList Z.K (tVar 2)) (gName 4) tYes (tMake Z.H (sp_H_init Z) [] E0 (tCons (tVar 4) tNil)) [4]) "hands")
    (tSeq (sFld Z.K (tVar 0) (tLst tNil) "ends")
    ((sFld Z.K (tVar 0) (tC (.bl false)) "strayed"))))))))))))
/-- Machine.need_hand: 0 self, 1 hand -/
def t_M_need_hand (Z : Cs) : TS :=
  tSeq (tIfS (tNot (tTest (tChain rLeI rLtI (tC (.int 0)) (tVar 1) (tCB (rLen1 Z.K) (tCons (tFld Z.K (tVar 0) "hands") tNil))))) ((tNever)) (tNext))
    ((tRet (tOp (rIxL Z.K) (tFld Z.K (tVar 0) "hands") (tVar 1))))
/-- Machine.rests: 0 self, 1 hand -/
def t_M_rests (Z : Cs) : TS :=
  (tRet (tOp rEq (tFld Z.K (tOp (rIxL Z.K) (tFld Z.K (tVar 0) "hands") (tVar 1)) "at") (tCB (rLen1 Z.K) (tCons (tFld Z.K (tOp (rIxL Z.K) (tFld Z.K (tVar 0) "hands") (tVar 1)) "program") tNil))))
/-- Machine.is_done: 0 self, 1 hand -/
def t_M_is_done (Z : Cs) : TS :=
  (tRet (tOp (rEqD Z.K) (tLc (iRng1 (tCons (tCB (rLen1 Z.K) (tCons (tFld Z.K (tVar 0) "hands") tNil)) tNil)) (gName 1) (tNot (tB (tMeth Z.M "rests" (sp_M_rests Z) [] E0 (tVar 0) (tCons (tVar 1) tNil)))) (tVar 1) [1]) (tLst tNil)))
/-- Machine.is_stale: 0 self -/
def t_M_is_stale (Z : Cs) : TS :=
  (tRet (tFld Z.K (tVar 0) "strayed"))
/-- Machine.answers: 0 self, 1 hand -/
def t_M_answers (Z : Cs) : TS :=
  (tRet (tCB (rListOf Z.K) (tCons (tFld Z.K (tMeth Z.M "need_hand" (sp_M_need_hand Z) [] E0 (tVar 0) (tCons (tVar 1) tNil)) "said") tNil)))
/-- Machine.marked: 0 self, 1 hand -/
def t_M_marked (Z : Cs) : TS :=
  (tRet (tFld Z.K (tMeth Z.M "need_hand" (sp_M_need_hand Z) [] E0 (tVar 0) (tCons (tVar 1) tNil)) "mark"))
/-- Machine.order: 0 self -/
def t_M_order (Z : Cs) : TS :=
  (tRet (tCB (rListOf Z.K) (tCons (tFld Z.K (tVar 0) "ends") tNil)))
/-- Machine.free: 0 self -/
def t_M_free (Z : Cs) : TS :=
  (tRet (tCB (rListOf Z.K) (tCons (tFld Z.K (tVar 0) "freed") tNil)))
/-- Machine.top_now: 0 self -/
def t_M_top_now (Z : Cs) : TS :=
  (tRet (tTup (tCons (tFld Z.K (tVar 0) "top") (tCons (tFld Z.K (tVar 0) "count") tNil))))
/-- Machine.nexts: 0 self -/
def t_M_nexts (Z : Cs) : TS :=
  (tRet (tCB (rListOf Z.K) (tCons (tFld Z.K (tVar 0) "links") tNil)))
/-- Machine.pile: 0 self, 1 found, 2 cell -/
def t_M_pile (Z : Cs) : TS :=
  tSeq (tAsg (tLst tNil) (gName 1))
    (tSeq (tAsg (tFld Z.K (tVar 0) "top") (gName 2))
    (tSeq (tWhile ((tAnd (tTest (tOp rNe (tVar 2) (tC (.int 0)))) (tTest (tOp (rIn Z.K true) (tVar 2) (tVar 1))))) (tSeq (tDrop (tBM Z.K "list" rAppend (tVar 1) (tCons (tVar 2) tNil)))
    ((tAsg (tOp (rIxL Z.K) (tFld Z.K (tVar 0) "links") (tOp rSubI (tVar 2) (tC (.int 1)))) (gName 2)))))
    ((tRet (tVar 1)))))
/-- Machine.pile_values: 0 self, 1 cell -/
def t_M_pile_values (Z : Cs) : TS :=
  (tRet (tLc (iList Z.K (tMeth Z.M "pile" (sp_M_pile Z) [] E0 (tVar 0) tNil)) (gName 1) tYes (tOp (rIxL Z.K) (tFld Z.K (tVar 0) "worths") (tOp rSubI (tVar 1) (tC (.int 1)))) [1]))
/-- Machine.marks: 0 self, 1 hand -/
def t_M_marks (Z : Cs) : TS :=
  (tRet (tLc (iList Z.K (tFld Z.K (tVar 0) "hands")) (gName 1) (tTest (tOp rNe (tFld Z.K (tVar 1) "mark") (tC (.int 0)))) (tFld Z.K (tVar 1) "mark") [1]))
/-- Machine.taken: 0 self, 1 value, 2 cell -/
def t_M_taken (Z : Cs) : TS :=
  tSeq (tFor (iList Z.K (tCB (rListOf Z.K) (tCons (tFld Z.K (tVar 0) "freed") tNil))) (gName 2) ((tIfS ((tAnd (tTest (tOp rNe (tOp (rIxT Z.K) (tFld Z.K (tVar 0) "rule") (tC (.int 0))) (tC (.str "keeps")))) (tTest (tOp (rIn Z.K true) (tVar 2) (tMeth Z.M "marks" (sp_M_marks Z) [] E0 (tVar 0) tNil))))) (tSeq (tDrop (tBM Z.K "list" rRemI (tFld Z.K (tVar 0) "freed") (tCons (tVar 2) tNil)))
    (tSeq (tAsg (tVar 1) (gSub (tFld Z.K (tVar 0) "worths") (tOp rSubI (tVar 2) (tC (.int 1))) rSetL))
    ((tRet (tVar 2))))) (tNext))))
    (tSeq (tDrop (tBM Z.K "list" rAppend (tFld Z.K (tVar 0) "worths") (tCons (tVar 1) tNil)))
    (tSeq (tDrop (tBM Z.K "list" rAppend (tFld Z.K (tVar 0) "links") (tCons (tC (.int 0)) tNil)))
    ((tRet (tCB (rLen1 Z.K) (tCons (tFld Z.K (tVar 0) "worths") tNil))))))
/-- Machine.turn: 0 self, 1 hand, 2 one, 3 deed -/
def t_M_turn (Z : Cs) : TS :=
  tSeq (tAsg (tMeth Z.M "need_hand" (sp_M_need_hand Z) [] E0 (tVar 0) (tCons (tVar 1) tNil)) (gName 2))
    (tSeq (tIfS (tB (tMeth Z.M "rests" (sp_M_rests Z) [] E0 (tVar 0) (tCons (tVar 1) tNil))) ((tRet (tTup (tCons (tC (.str "rests")) tNil)))) (tNext))
    (tSeq (tAsg (tOp (rIxL Z.K) (tFld Z.K (tVar 2) "program") (tFld Z.K (tVar 2) "at")) (gName 3))
    (tSeq (tIfS ((tAnd (tTest (tOp rEq (tOp (rIxT Z.K) (tVar 3) (tC (.int 0))) (tC (.str "push")))) (tTest (tOp rEq (tFld Z.K (tVar 2) "cell") (tC (.int 0)))))) (tSeq (sFld Z.K (tVar 2) (tMeth Z.M "taken" (sp_M_taken Z) [] E0 (tVar 0) (tCons (tOp (rIxT Z.K) (tVar 3) (tC (.int 1))) tNil)) "cell")
    ((tRet (tTup (tCons (tC (.str "takes")) (tCons (tFld Z.K (tVar 2) "cell") tNil)))))) (tNext))
    (tSeq (tIfS (tTest (tOp rIsN (tFld Z.K (tVar 2) "seen") (tC .non))) ((tRet (tMeth Z.M "read" (sp_M_read Z) [] E0 (tVar 0) (tCons (tVar 1) tNil)))) (tNext))
    (tSeq (tIfS (tTest (tOp rEq (tOp (rIxT Z.K) (tVar 3) (tC (.int 0))) (tC (.str "push")))) ((tRet (tMeth Z.M "push" (sp_M_push Z) [] E0 (tVar 0) (tCons (tVar 1) tNil)))) (tNext))
    ((tRet (tMeth Z.M "pop" (sp_M_pop Z) [] E0 (tVar 0) (tCons (tVar 1) tNil)))))))))
/-- Machine.read: 0 self, 1 hand, 2 one -/
def t_M_read (Z : Cs) : TS :=
  tSeq (tAsg (tOp (rIxL Z.K) (tFld Z.K (tVar 0) "hands") (tVar 1)) (gName 2))
    (tSeq (tIfS ((tAnd (tTest (tOp rEq (tFld Z.K (tVar 0) "top") (tC (.int 0)))) (tTest (tOp rEq (tOp (rIxT Z.K) (tOp (rIxL Z.K) (tFld Z.K (tVar 2) "program") (tFld Z.K (tVar 2) "at")) (tC (.int 0))) (tC (.str "pop")))))) (tSeq (tDrop (tBM Z.K "list" rAppend (tFld Z.K (tVar 0) "ends") (tCons (tTup (tCons (tVar 1) (tCons (tFld Z.K (tVar 2) "at") tNil))) tNil)))
    ((tRet (tMeth Z.M "ended" (sp_M_ended Z) [] E0 (tVar 0) (tCons (tVar 1) (tCons (tC .non) tNil)))))) (tNext))
    (tSeq (sFld Z.K (tVar 2) (tTup (tCons (tFld Z.K (tVar 0) "top") (tCons (tFld Z.K (tVar 0) "count") tNil))) "seen")
    ((tRet (tTup (tCons (tC (.str "reads")) (tCons (tFld Z.K (tVar 0) "top") tNil)))))))
/-- Machine.ended: 0 self, 1 hand, 2 answer, 3 one -/
def t_M_ended (Z : Cs) : TS :=
  tSeq (tAsg (tOp (rIxL Z.K) (tFld Z.K (tVar 0) "hands") (tVar 1)) (gName 3))
    (tSeq (tDrop (tBM Z.K "list" rAppend (tFld Z.K (tVar 3) "said") (tCons (tVar 2) tNil)))
    (tSeq (sFld Z.K (tVar 3) (tOp rAddI (tFld Z.K (tVar 3) "at") (tC (.int 1))) "at")
    (tSeq (tDrop (tMeth Z.M "forget" (sp_M_forget Z) [] E0 (tVar 0) (tCons (tVar 1) tNil)))
    (tSeq (sFld Z.K (tVar 3) (tC (.int 0)) "cell")
    (tSeq (sFld Z.K (tVar 3) (tC (.int 0)) "mark")
    ((tRet (tTup (tCons (tC (.str "ends")) (tCons (tVar 2) tNil))))))))))
/-- Machine.forget: 0 self, 1 hand, 2 one -/
def t_M_forget (Z : Cs) : TS :=
  tSeq (tAsg (tOp (rIxL Z.K) (tFld Z.K (tVar 0) "hands") (tVar 1)) (gName 2))
    (tSeq (sFld Z.K (tVar 2) (tC .non) "seen")
    (tSeq (sFld Z.K (tVar 2) (tC .non) "follow")
    ((sFld Z.K (tVar 2) (tC (.bl false)) "looked"))))
/-- Machine.exchange: 0 self, 1 hand, 2 cell -/
def t_M_exchange (Z : Cs) : TS :=
  tSeq (tIfS (tTest (tOp (rNeD Z.K) (tTup (tCons (tFld Z.K (tVar 0) "top") (tCons (tFld Z.K (tVar 0) "count") tNil))) (tFld Z.K (tOp (rIxL Z.K) (tFld Z.K (tVar 0) "hands") (tVar 1)) "seen"))) (tSeq (tDrop (tMeth Z.M "forget" (sp_M_forget Z) [] E0 (tVar 0) (tCons (tVar 1) tNil)))
    ((tRet (tC (.bl false))))) (tNext))
    (tSeq (sFld Z.K (tVar 0) (tVar 2) "top")
    (tSeq (tIfS (tTest (tOp rEq (tOp (rIxT Z.K) (tFld Z.K (tVar 0) "rule") (tC (.int 0))) (tC (.str "counts")))) ((sFld Z.K (tVar 0) (tOp rModI (tOp rAddI (tFld Z.K (tVar 0) "count") (tC (.int 1))) (tOp (rIxT Z.K) (tFld Z.K (tVar 0) "rule") (tC (.int 1)))) "count")) (tNext))
    (tSeq (tDrop (tBM Z.K "list" rAppend (tFld Z.K (tVar 0) "ends") (tCons (tTup (tCons (tVar 1) (tCons (tFld Z.K (tOp (rIxL Z.K) (tFld Z.K (tVar 0) "hands") (tVar 1)) "at") tNil))) tNil)))
    ((tRet (tC (.bl true)))))))
/-- Machine.push: 0 self, 1 hand, 2 one -/
def t_M_push (Z : Cs) : TS :=
  tSeq (tAsg (tOp (rIxL Z.K) (tFld Z.K (tVar 0) "hands") (tVar 1)) (gName 2))
    (tSeq (tIfS (tTest (tOp rIsN (tFld Z.K (tVar 2) "follow") (tC .non))) (tSeq (sFld Z.K (tVar 2) (tOp (rIxT Z.K) (tFld Z.K (tVar 2) "seen") (tC (.int 0))) "follow")
    (tSeq (tAsg (tFld Z.K (tVar 2) "follow") (gSub (tFld Z.K (tVar 0) "links") (tOp rSubI (tFld Z.K (tVar 2) "cell") (tC (.int 1))) rSetL))
    ((tRet (tTup (tCons (tC (.str "links")) (tCons (tFld Z.K (tVar 2) "follow") tNil))))))) (tNext))
    (tSeq (tIfS (tNot (tB (tMeth Z.M "exchange" (sp_M_exchange Z) [] E0 (tVar 0) (tCons (tVar 1) (tCons (tFld Z.K (tVar 2) "cell") tNil))))) ((tRet (tTup (tCons (tC (.str "misses")) tNil)))) (tNext))
    ((tRet (tMeth Z.M "ended" (sp_M_ended Z) [] E0 (tVar 0) (tCons (tVar 1) (tCons (tC (.str "done")) tNil)))))))
/-- Machine.pop: 0 self, 1 hand, 2 one, 3 cell, 4 follow -/
def t_M_pop (Z : Cs) : TS :=
  tSeq (tAsg (tOp (rIxL Z.K) (tFld Z.K (tVar 0) "hands") (tVar 1)) (gName 2))
    (tSeq (tIfS (tTest (tOp rNe (tFld Z.K (tVar 2) "cell") (tC (.int 0)))) (tSeq (tDrop (tBM Z.K "list" rAppend (tFld Z.K (tVar 0) "freed") (tCons (tFld Z.K (tVar 2) "cell") tNil)))
    ((tRet (tMeth Z.M "ended" (sp_M_ended Z) [] E0 (tVar 0) (tCons (tVar 1) (tCons (tOp (rIxL Z.K) (tFld Z.K (tVar 0) "worths") (tOp rSubI (tFld Z.K (tVar 2) "cell") (tC (.int 1)))) tNil)))))) (tNext))
    (tSeq (tAsg (tOp (rIxT Z.K) (tFld Z.K (tVar 2) "seen") (tC (.int 0))) (gName 3))
    (tSeq (tIfS ((tAnd (tTest (tOp rEq (tOp (rIxT Z.K) (tFld Z.K (tVar 0) "rule") (tC (.int 0))) (tC (.str "marks")))) (tAnd (tTest (tOp (rIn Z.K false) (tVar 1) (tOp (rIxT Z.K) (tFld Z.K (tVar 0) "rule") (tC (.int 1))))) (tNot (tB (tFld Z.K (tVar 2) "looked")))))) ((tRet (tMeth Z.M "guard" (sp_M_guard Z) [] E0 (tVar 0) (tCons (tVar 1) (tCons (tVar 3) tNil))))) (tNext))
    (tSeq (tIfS (tTest (tOp rIsN (tFld Z.K (tVar 2) "follow") (tC .non))) (tSeq (sFld Z.K (tVar 2) (tOp (rIxL Z.K) (tFld Z.K (tVar 0) "links") (tOp rSubI (tVar 3) (tC (.int 1)))) "follow")
    ((tRet (tTup (tCons (tC (.str "follows")) (tCons (tFld Z.K (tVar 2) "follow") tNil)))))) (tNext))
    (tSeq (tAsg (tFld Z.K (tVar 2) "follow") (gName 4))
    (tSeq (tIfS (tNot (tB (tMeth Z.M "exchange" (sp_M_exchange Z) [] E0 (tVar 0) (tCons (tVar 1) (tCons (tVar 4) tNil))))) ((tRet (tTup (tCons (tC (.str "misses")) tNil)))) (tNext))
    (tSeq (sFld Z.K (tVar 0) (tOrV (tFld Z.K (tVar 0) "strayed") (tOp (rNeD Z.K) (tOp (rIxL Z.K) (tFld Z.K (tVar 0) "links") (tOp rSubI (tVar 3) (tC (.int 1)))) (tVar 4))) "strayed")
    (tSeq (sFld Z.K (tVar 2) (tVar 3) "cell")
    ((tRet (tTup (tCons (tC (.str "exchanges")) (tCons (tVar 4) tNil)))))))))))))
/-- Machine.guard: 0 self, 1 hand, 2 cell, 3 one -/
def t_M_guard (Z : Cs) : TS :=
  tSeq (tAsg (tOp (rIxL Z.K) (tFld Z.K (tVar 0) "hands") (tVar 1)) (gName 3))
    (tSeq (tIfS (tTest (tOp rNe (tFld Z.K (tVar 3) "mark") (tVar 2))) (tSeq (sFld Z.K (tVar 3) (tVar 2) "mark")
    ((tRet (tTup (tCons (tC (.str "marks")) (tCons (tVar 2) tNil)))))) (tNext))
    (tSeq (tIfS (tTest (tOp rNe (tFld Z.K (tVar 0) "top") (tVar 2))) (tSeq (tDrop (tMeth Z.M "forget" (sp_M_forget Z) [] E0 (tVar 0) (tCons (tVar 1) tNil)))
    ((tRet (tTup (tCons (tC (.str "looks")) (tCons (tC (.bl false)) tNil)))))) (tNext))
    (tSeq (sFld Z.K (tVar 3) (tC (.bl true)) "looked")
    ((tRet (tTup (tCons (tC (.str "looks")) (tCons (tC (.bl true)) tNil))))))))
end SS

set_option Elab.async false
set_option linter.all false
set_option maxRecDepth 100000
set_option maxHeartbeats 4000000
namespace SS
open PySem L2
abbrev endsOf (Q : VK) : Ends := { nx := fun _ H' => Q .non H', rt := Q, bk := fun _ _ => False, ct := fun _ _ => False }
local macro_rules | `(tactic| walk_at "q") => `(tactic| ((try dsimp only); refine s_seq ?_))
theorem pure_M_need_hand {Z : Cs} (k : ZOk Z) (vs : List V) (H : Hp) (Q : VK) (E : XK) (h : sp_M_need_hand Z vs H Q E) : t_M_need_hand Z { nx := fun _ H' => Q .non H', rt := Q } (start ["self", "hand"] vs) H := by
  obtain ⟨A, m, h, a, rfl, T, ha, q⟩ := h
  have hl : (h : Int) < ((A.hs.map fun a => V.ref a.h).length : Int) := by
    rw [List.length_map]
    exact Int.ofNat_lt.mpr (List.getElem?_eq_some_iff.mp ha).1
  have hl2 : h < A.hs.length := (List.getElem?_eq_some_iff.mp ha).1
  unfold t_M_need_hand
  walk_at "q"
  refine (s_ifF (et_is (et_not (et_test (ev_leLt ev_c (ev_var rfl) (ev_lenL (em_hands k T (ev_var rfl)) (SqL.of T.handsLL))))) ?_) (s_ret (em_hand k T ha (ev_var rfl) (ev_var rfl)) q))
  simp [hl2]
theorem pure_M_rests {Z : Cs} (k : ZOk Z) (vs : List V) (H : Hp) (Q : VK) (E : XK) (h : sp_M_rests Z vs H Q E) : t_M_rests Z { nx := fun _ H' => Q .non H', rt := Q } (start ["self", "hand"] vs) H := by
  obtain ⟨A, m, h, a, rfl, T, ha, q⟩ := h
  obtain ⟨sv, O, S⟩ := T.handO ha
  obtain ⟨us, P, hu⟩ := T.progL ha
  unfold t_M_rests
  refine s_ret (ev_is (ev_eq (eh_at k O (em_hand k T ha (ev_var rfl) (ev_var rfl))) (ev_lenL (eh_program k O (em_hand k T ha (ev_var rfl) (ev_var rfl))) (SqL.of P)) rfl) ?_) q
  rw [hu.length]
  unfold M.rests
  congr 1
  rw [dec_int, Bool.beq_eq_decide_eq, Bool.beq_eq_decide_eq]
  exact decide_eq_decide.mpr Int.ofNat_inj
theorem pure_M_forget {Z : Cs} (k : ZOk Z) (vs : List V) (H : Hp) (Q : VK) (E : XK) (h : sp_M_forget Z vs H Q E) : t_M_forget Z { nx := fun _ H' => Q .non H', rt := Q } (start ["self", "hand", "one"] vs) H := by
  obtain ⟨A, m, h, a, rfl, T, ha, q⟩ := h
  obtain ⟨sv, O, S⟩ := T.handO ha
  unfold t_M_forget
  walk_at "q"
  refine (s_asg (em_hand k T ha (ev_var rfl) (ev_var rfl)) ?_)
  rw [← M.setH_self (m := m) (h := h)] at T
  walk_at "q"
  refine (sh_seen (o := none) k T ha O rfl ev_c (ev_var rfl) fun H1 T1 C1 O1 => ?_)
  walk_at "q"
  refine (sh_follow (o := none) k T1 ha O1 rfl ev_c (ev_var rfl) fun H2 T2 C2 O2 => ?_)
  refine sh_looked (b := false) k T2 ha O2 rfl ev_c (ev_var rfl) fun H3 T3 C3 O3 => ?_
  exact q H3 T3 ((C1.trans C2).trans C3)

section
variable {Z : Cs} {A : MA} {m m' : M} {H H0 : Hp} {s : L2.St} {D : Ends} {ar : TA} {w : Tell}
/-- return (a word, ..) -/
theorem s_tell (T : MachAt Z H A m') (C : Chg A.owns H0 H) (h : EvA ar s H (tellVs w)) (q : ∀ H' v, MachAt Z H' A m' → Chg A.owns H0 H' → TellAt H' v w → D.rt v H') : tRet (tTup ar) D s H :=
  e_tup h (by cases w <;> simp [tellVs]) fun p hp => q _ _ (T.new hp) (C.trans (Chg.same (Same.new hp))) ⟨p, rfl, upd_same⟩
end
theorem ansV_int (n : Nat) : ansV (.val n) = natV n := rfl
theorem pure_M_ended {Z : Cs} (k : ZOk Z) (vs : List V) (H : Hp) (Q : VK) (E : XK) (h : sp_M_ended Z vs H Q E) : t_M_ended Z { nx := fun _ H' => Q .non H', rt := Q } (start ["self", "hand", "answer", "one"] vs) H := by
  obtain ⟨A, m, h, a, w, rfl, T, ha, hz, q⟩ := h
  obtain ⟨sv, O, S⟩ := T.handO ha
  unfold t_M_ended
  walk_at "q"
  refine (s_asg (em_hand k T ha (ev_var rfl) (ev_var rfl)) ?_)
  rw [← M.setH_self (m := m) (h := h)] at T
  walk_at "q"
  refine (sh_said (w := w) k T ha O S hz (ev_var rfl) (ev_var rfl) fun H1 T1 C1 O1 => ?_)
  have S1 := S.mono C1.tup
  walk_at "q"
  refine (sh_at (n := (m.hd h).at_ + 1) k T1 ha O1 S1 (ev_add (eh_at k O1 (ev_var rfl)) ev_c) (ev_var rfl) fun H2 T2 C2 O2 => ?_)
  have S2 := S1.mono C2.tup
  have hl := T.len ha
  rw [M.setH_len] at hl
  walk_at "q"
  refine (s_drop' (s_meth (ev_var rfl) T2.obj (mf_no _ _ _ (by simp)) (ea_cons (ev_var rfl) ea_nil) ⟨A, _, h, a, rfl, T2, ha, fun H3 T3 C3 => ?_⟩))
  rw [M.setH_hd hl, M.setH_setH] at T3
  obtain ⟨sv3, O3, S3⟩ := T3.hO ha
  walk_at "q"
  refine (sh_cell (n := 0) k T3 ha O3 S3 ev_c (ev_var rfl) fun H4 T4 C4 O4 => ?_)
  have S4 := S3.mono C4.tup
  walk_at "q"
  refine (sh_mark (n := 0) k T4 ha O4 S4 ev_c (ev_var rfl) fun H5 T5 C5 O5 => ?_)
  refine s_tell (w := .ends w) T5 ((((C1.trans C2).trans C3).trans C4).trans C5) (ea_cons ev_c (ea_cons (ev_var rfl) ea_nil)) fun H' v T' C' W => ?_
  exact q H' v T' C' W
theorem seenD {K : PySem.W.Frag} {H : Hp} {v : V} : ∀ {o : Option (Nat × Nat)}, SeenAt H v o → ∃ d, Dp K H v d ∧ SeqAt.shaped d = true ∧ ∀ t c : Nat, PyData.eqv (.tuple [.int t, .int c]) d = decide (o = some (t, c))
  | none, h => ⟨.none, by rw [show v = .non from h]; exact .non, rfl, fun t c => rfl⟩
  | some (a, b), ⟨q, e, h⟩ => ⟨.tuple [.int a, .int b], by rw [e]; exact .tup (SqT.of h) (.cons (.int _) (.cons (.int _) .nil)), rfl, fun t c => by
      have h1 : PyData.eqv (.tuple [.int t, .int c]) (.tuple [.int a, .int b]) = (((t : Int) == (a : Int)) && (((c : Int) == (b : Int)) && true)) := rfl
      rw [h1, Bool.and_true]
      by_cases e1 : t = a
      · by_cases e2 : c = b
        · subst e1 e2
          simp
        · have n1 : ((c : Int) == (b : Int)) = false := by simpa using fun z => e2 (Int.ofNat_inj.mp z)
          rw [n1, Bool.and_false]
          exact (decide_eq_false (fun z => e2 (by cases z; rfl))).symm
      · have n1 : ((t : Int) == (a : Int)) = false := by simpa using fun z => e1 (Int.ofNat_inj.mp z)
        rw [n1, Bool.false_and]
        exact (decide_eq_false (fun z => e1 (by cases z; rfl))).symm⟩
theorem pure_M_exchange {Z : Cs} (k : ZOk Z) (vs : List V) (H : Hp) (Q : VK) (E : XK) (h : sp_M_exchange Z vs H Q E) : t_M_exchange Z { nx := fun _ H' => Q .non H', rt := Q } (start ["self", "hand", "cell"] vs) H := by
  obtain ⟨A, m, h, c, a, rfl, T, ha, hz, oc, q⟩ := h
  unfold t_M_exchange
  -- the comparison: a new tuple
  have key : ∀ (tu tw : TS) (D : Ends) (s : L2.St), s[0]? = some (some (.ref A.p)) → s[1]? = some (some (.int h)) → (m.fits h = false → ∀ H1, MachAt Z H1 A m → Chg A.owns H H1 → tu D s H1) → (m.fits h = true → ∀ H1, MachAt Z H1 A m → Chg A.owns H H1 → tw D s H1) →
      tIfS (tTest (tOp (rNeD Z.K) (tTup (tCons (tFld Z.K (tVar 0) "top") (tCons (tFld Z.K (tVar 0) "count") tNil))) (tFld Z.K (tOp (rIxL Z.K) (tFld Z.K (tVar 0) "hands") (tVar 1)) "seen"))) tu tw D s H := by
    intro tu tw D s h0 h1 kF kT
    refine s_if_of (t_test_of (t_op_of (e_tup (ea_cons (em_top k T (ev_var h0)) (ea_cons (em_count k T (ev_var h0)) ea_nil)) (by show 2 ≤ 1000; decide) fun p hp => ?_)))
    have T1 := T.new (o := .tup [.int m.top, .int m.count]) hp
    obtain ⟨sv, O, S⟩ := T1.handO ha
    obtain ⟨d, hd, sd, ed⟩ := seenD (K := Z.K) S
    refine (eh_seen k O (em_hand k T1 ha (ev_var h0) (ev_var h1))) _ ?_
    refine ⟨.tuple [.int m.top, .int m.count], d, .tup (SqT.of upd_same) (.cons (.int _) (.cons (.int _) .nil)), hd, rfl, sd, ⟨_, rfl, ?_⟩⟩
    rw [ed]
    unfold M.fits at kF kT
    cases e : decide ((m.hd h).seen = some (m.top, m.count)) with
    | true => exact kT e _ T1 (Chg.same (Same.new hp))
    | false => exact kF e _ T1 (Chg.same (Same.new hp))
  walk_at "q"
  refine key _ _ _ _ rfl rfl (fun e H1 T1 C1 => ?_) (fun e H1 T1 C1 => ?_)
  · have ex : m.exch h c = (false, m.setH h (m.hd h).forgot) := by unfold M.exch; rw [e]; rfl
    rw [ex] at q
    walk_at "q"
    refine (s_drop' (s_meth (ev_var rfl) T1.obj (mf_no _ _ _ (by simp)) (ea_cons (ev_var rfl) ea_nil) ⟨A, _, h, a, rfl, T1, ha, fun H2 T2 C2 => ?_⟩))
    dsimp only
    exact s_ret ev_c (q H2 T2 (C1.trans C2))
  · have ex : m.exch h c = (true, m.exchd h c) := by unfold M.exch; rw [e]; rfl
    rw [ex] at q
    dsimp only [tNext]
    walk_at "q"
    refine (sm_top (t := c) k T1 (ev_var rfl) (ev_var rfl) fun H2 T2 C2 K2 => ?_)
    -- the count
    have cnt : ∀ (tw : TS) (D : Ends) (s : L2.St), s[0]? = some (some (.ref A.p)) → (∀ H3, MachAt Z H3 A { m with top := c, count := m.turned } → Chg A.owns H H3 → D.nx s H3) →
        tIfS (tTest (tOp rEq (tOp (rIxT Z.K) (tFld Z.K (tVar 0) "rule") (tC (.int 0))) (tC (.str "counts")))) (sFld Z.K (tVar 0) (tOp rModI (tOp rAddI (tFld Z.K (tVar 0) "count") (tC (.int 1))) (tOp (rIxT Z.K) (tFld Z.K (tVar 0) "rule") (tC (.int 1)))) "count") tNext D s H2 := by
      intro tw D s h0 kk
      have R := T2.rule
      cases er : m.rule with
      | counts n =>
        have R : H2 A.rule = some (.tup [.str "counts", .int n]) := by
          have := R
          simp only [er, RuleAt] at this
          exact this
        refine s_ifT (et_is (et_test (ev_eq (ev_ixT (em_rule k T2 (ev_var h0)) ev_c (SqT.of R) (atI_nat (j := 0) rfl)) ev_c rfl)) rfl) ?_
        refine sm_count (t := (m.count + 1) % n) k T2 (ev_mod (ev_add (em_count k T2 (ev_var h0)) ev_c) (ev_ixT (em_rule k T2 (ev_var h0)) ev_c (SqT.of R) (atI_nat (j := 1) rfl)) (by have := oc n er; omega)) (ev_var h0) fun H3 T3 C3 _ => ?_
        have et : m.turned = (m.count + 1) % n := by unfold M.turned; rw [er]
        rw [← et] at T3
        exact kk H3 T3 ((C1.trans C2).trans C3)
      | marks hs =>
        have R : ∃ t, H2 A.rule = some (.tup [.str "marks", .ref t]) ∧ H2 t = some (.tup (hs.map natV)) := by
          have := R
          simp only [er, RuleAt] at this
          exact this
        obtain ⟨t, R, _⟩ := R
        refine s_ifF (et_is (et_test (ev_eq (ev_ixT (em_rule k T2 (ev_var h0)) ev_c (SqT.of R) (atI_nat (j := 0) rfl)) ev_c rfl)) (by decide +kernel)) ?_
        have et : m.turned = m.count := by unfold M.turned; rw [er]
        exact kk H2 (by rw [et]; exact T2) (C1.trans C2)
      | keeps =>
        have R : H2 A.rule = some (.tup [.str "keeps"]) := by
          have := R
          simp only [er, RuleAt] at this
          exact this
        refine s_ifF (et_is (et_test (ev_eq (ev_ixT (em_rule k T2 (ev_var h0)) ev_c (SqT.of R) (atI_nat (j := 0) rfl)) ev_c rfl)) (by decide +kernel)) ?_
        have et : m.turned = m.count := by unfold M.turned; rw [er]
        exact kk H2 (by rw [et]; exact T2) (C1.trans C2)
    walk_at "q"
    refine (cnt tNext _ _ rfl fun H3 T3 C3 => ?_)
    -- self.ends.append((hand, self.hands[hand].at))
    obtain ⟨sv, O, S⟩ := T3.handO ha
    obtain ⟨us, L, hu⟩ := T3.endsL
    walk_at "q"
    refine s_appX (em_ends k T3 (ev_var rfl)) L ?_
    refine e_tup (ea_cons (ev_var rfl) (ea_cons (eh_at k O (em_hand k T3 ha (ev_var rfl) (ev_var rfl))) ea_nil)) (by show 2 ≤ 1000; decide) fun p hp => ?_
    have L' : upd H3 p (.tup [.int h, .int (m.hd h).at_]) A.ends = some (.lst us) := Same.new hp _ _ L
    refine ⟨us, L', by rw [hu.length]; exact Nat.lt_of_lt_of_le hz (by decide), ?_⟩
    have T4 := T3.new (o := .tup [.int h, .int (m.hd h).at_]) hp
    obtain ⟨T5, C5⟩ := T4.addEnd (vs := us) (v := .ref p) (p := (h, (m.hd h).at_)) (hu.mono fun _ _ => PairAt.mono fun b xs e => Same.new hp _ _ e) ⟨p, rfl, upd_same⟩
    dsimp only
    exact s_ret ev_c (q _ T5 ((C3.trans (Chg.same (Same.new hp))).trans C5))
end SS

set_option Elab.async false
set_option linter.all false
set_option maxRecDepth 100000
set_option maxHeartbeats 4000000
namespace SS
open PySem L2
local macro_rules | `(tactic| walk_at "q") => `(tactic| ((try dsimp only); refine s_seq ?_))

theorem pure_M_guard {Z : Cs} (k : ZOk Z) (vs : List V) (H : Hp) (Q : VK) (E : XK) (h : sp_M_guard Z vs H Q E) : t_M_guard Z { nx := fun _ H' => Q .non H', rt := Q } (start ["self", "hand", "cell", "one"] vs) H := by
  obtain ⟨A, m, h, c, a, rfl, T, ha, q⟩ := h
  obtain ⟨sv, O, S⟩ := T.handO ha
  unfold t_M_guard
  walk_at "q"
  refine s_asg (em_hand k T ha (ev_var rfl) (ev_var rfl)) ?_
  rw [← M.setH_self (m := m) (h := h)] at T
  walk_at "q"
  refine s_if (et_test (ev_ne (eh_mark k O (ev_var rfl)) (ev_var rfl) rfl)) (fun e => ?_) (fun e => ?_)
  · have e1 : (m.hd h).mark ≠ c := fun z => by simp [z] at e
    have eg : m.guard h c = (.marks c, m.setH h { m.hd h with mark := c }) := by unfold M.guard; rw [if_pos e1]
    rw [eg] at q
    walk_at "q"
    refine sh_mark (n := c) k T ha O S (ev_var rfl) (ev_var rfl) fun H1 T1 C1 O1 => ?_
    dsimp only
    exact s_tell (w := .marks c) T1 C1 (ea_cons ev_c (ea_cons (ev_var rfl) ea_nil)) q
  · have e1 : (m.hd h).mark = c := by
      have := e
      simp only [Bool.not_eq_false', decide_eq_true_eq] at this
      have z := V.int.inj this
      exact Int.ofNat_inj.mp z
    dsimp only [tNext]
    rw [M.setH_self] at T
    walk_at "q"
    refine s_if (et_test (ev_ne (em_top k T (ev_var rfl)) (ev_var rfl) rfl)) (fun e => ?_) (fun e => ?_)
    · have e2 : m.top ≠ c := fun z => by simp [z] at e
      have eg : m.guard h c = (.looks false, m.setH h (m.hd h).forgot) := by unfold M.guard; rw [if_neg (not_not_intro e1), if_pos e2]
      rw [eg] at q
      walk_at "q"
      refine s_drop' (s_meth (ev_var rfl) T.obj (mf_no _ _ _ (by simp)) (ea_cons (ev_var rfl) ea_nil) ⟨A, _, h, a, rfl, T, ha, fun H2 T2 C2 => ?_⟩)
      dsimp only
      exact s_tell (w := .looks false) T2 C2 (ea_cons ev_c (ea_cons ev_c ea_nil)) q
    · have e2 : m.top = c := by
        have := e
        simp only [Bool.not_eq_false', decide_eq_true_eq] at this
        have z := V.int.inj this
        exact Int.ofNat_inj.mp z
      have eg : m.guard h c = (.looks true, m.setH h { m.hd h with looked := true }) := by unfold M.guard; rw [if_neg (not_not_intro e1), if_neg (not_not_intro e2)]
      rw [eg] at q
      dsimp only [tNext]
      rw [← M.setH_self (m := m) (h := h)] at T
      walk_at "q"
      refine sh_looked (b := true) k T ha O S ev_c (ev_var rfl) fun H1 T1 C1 O1 => ?_
      dsimp only
      exact s_tell (w := .looks true) T1 C1 (ea_cons ev_c (ea_cons ev_c ea_nil)) q
/-- self.ends.append((hand, one.at)), the hand in slot 1, one in slot 2 -/
theorem s_ends {Z : Cs} {A : MA} {m : M} {H : Hp} {s : L2.St} {D : Ends} {h : Nat} {a : HA} {sv : V} {x : Hd} {te : TE} (k : ZOk Z) (T : MachAt Z H A m) (ha : A.hs[h]? = some a) (hz : m.ends.length < 1000) (h0 : s[0]? = some (some (.ref A.p))) (h1 : s[1]? = some (some (.int h)))
    (ht : Ev te s H (.int (m.hd h).at_)) (q : ∀ H', MachAt Z H' A { m with ends := m.ends ++ [(h, (m.hd h).at_)] } → Chg A.owns H H' → D.nx s H') :
    tDrop (tBM Z.K "list" rAppend (tFld Z.K (tVar 0) "ends") (tCons (tTup (tCons (tVar 1) (tCons te tNil))) tNil)) D s H := by
  obtain ⟨us, L, hu⟩ := T.endsL
  refine s_appX (em_ends k T (ev_var h0)) L ?_
  refine e_tup (ea_cons (ev_var h1) (ea_cons ht ea_nil)) (by show 2 ≤ 1000; decide) fun p hp => ?_
  have L' : upd H p (.tup [.int h, .int (m.hd h).at_]) A.ends = some (.lst us) := Same.new hp _ _ L
  refine ⟨us, L', by rw [hu.length]; exact Nat.lt_of_lt_of_le hz (by decide), ?_⟩
  have T4 := T.new (o := .tup [.int h, .int (m.hd h).at_]) hp
  obtain ⟨T5, C5⟩ := T4.addEnd (vs := us) (v := .ref p) (p := (h, (m.hd h).at_)) (hu.mono fun _ _ => PairAt.mono fun b xs e => Same.new hp _ _ e) ⟨p, rfl, upd_same⟩
  exact q _ T5 ((Chg.same (Same.new hp)).trans C5)
/-- a deed of a hand's program -/
theorem MachAt.deed {Z : Cs} {A : MA} {m : M} {H : Hp} {h : Nat} {a : HA} {d : Deed} {i : Nat} (T : MachAt Z H A m) (ha : A.hs[h]? = some a) (hd : (m.prog h)[i]? = some d) :
    ∃ us q, H a.prog = some (.lst us) ∧ atI us (i : Int) = some (.ref q) ∧ H q = some (.tup (deedVs d)) := by
  obtain ⟨us, P, hu⟩ := T.progL ha
  obtain ⟨v, hv, q, rfl, hq⟩ := hu.get i hd
  exact ⟨us, q, P, atI_nat hv, hq⟩
theorem pure_M_read {Z : Cs} (k : ZOk Z) (vs : List V) (H : Hp) (Q : VK) (E : XK) (h : sp_M_read Z vs H Q E) : t_M_read Z { nx := fun _ H' => Q .non H', rt := Q } (start ["self", "hand", "one"] vs) H := by
  obtain ⟨A, m, h, a, d, rfl, T, ha, hd, hs, hz, q⟩ := h
  obtain ⟨sv, O, S⟩ := T.handO ha
  obtain ⟨us, p, P, hp, hq⟩ := T.deed ha hd
  unfold t_M_read
  walk_at "q"
  refine s_asg (em_hand k T ha (ev_var rfl) (ev_var rfl)) ?_
  walk_at "q"
  have test : EvT (tAnd (tTest (tOp rEq (tFld Z.K (tVar 0) "top") (tC (.int 0)))) (tTest (tOp rEq (tOp (rIxT Z.K) (tOp (rIxL Z.K) (tFld Z.K (tVar 2) "program") (tFld Z.K (tVar 2) "at")) (tC (.int 0))) (tC (.str "pop")))))
      ((start ["self", "hand", "one"] [.ref A.p, .int h]).set 2 (some (.ref a.h))) H (decide (m.top = 0 ∧ d = .pop)) := by
    refine et_is (et_and (et_test (ev_eq (em_top k T (ev_var rfl)) ev_c rfl)) fun _ => et_test (ev_eq (ev_ixT (ev_ixL (eh_program k O (ev_var rfl)) (eh_at k O (ev_var rfl)) (SqL.of P) hp) ev_c (SqT.of hq) (v := .str (match d with | .pop => "pop" | .push _ => "push")) ?_) ev_c ?_)) ?_
    · cases d <;> exact atI_nat (j := 0) rfl
    · cases d <;> rfl
    · have e0 : decide (V.int (m.top : Int) = V.int 0) = decide (m.top = 0) := decide_eq_decide.mpr ⟨fun e => Int.ofNat_inj.mp (V.int.inj e), fun e => by rw [e]; rfl⟩
      rw [e0]
      cases d with
      | pop => simp
      | push v =>
        have n : ¬ (("push" : Str) = "pop") := by decide +kernel
        simp [n]
  refine s_if test (fun e => ?_) (fun e => ?_)
  · have e1 : m.top = 0 ∧ d = .pop := of_decide_eq_true e
    have er : m.read h d = (.ends .non, { m with ends := m.ends ++ [(h, (m.hd h).at_)] }.endedH h .non) := by unfold M.read; rw [if_pos e1]
    rw [er] at q
    walk_at "q"
    refine s_ends (x := m.hd h) (sv := sv) k T ha hz rfl rfl (eh_at k O (ev_var rfl)) fun H1 T1 C1 => ?_
    dsimp only
    refine s_meth (ev_var rfl) T1.obj (mf_no _ _ _ (by simp)) (ea_cons (ev_var rfl) (ea_cons ev_c ea_nil)) ⟨A, _, h, a, .non, rfl, T1, ha, hs, fun H2 v T2 C2 W => ?_⟩
    exact q H2 v T2 (C1.trans C2) W
  · have e1 : ¬ (m.top = 0 ∧ d = .pop) := of_decide_eq_false e
    have er : m.read h d = (.reads m.top, m.setH h { m.hd h with seen := some (m.top, m.count) }) := by unfold M.read; rw [if_neg e1]
    rw [er] at q
    dsimp only [tNext]
    walk_at "q"
    refine e_tup (ea_cons (em_top k T (ev_var rfl)) (ea_cons (em_count k T (ev_var rfl)) ea_nil)) (by show 2 ≤ 1000; decide) fun p' hp' => ?_
    have T1 := T.new (o := .tup [.int m.top, .int m.count]) hp'
    have C1 : Chg A.owns H (upd H p' (.tup [.int m.top, .int m.count])) := Chg.same (Same.new hp')
    obtain ⟨sv1, O1, S1⟩ := T1.handO ha
    rw [← M.setH_self (m := m) (h := h)] at T1
    show sFld Z.K (tVar 2) (tC (.ref p')) "seen" _ _ _
    refine sh_seen (o := some (m.top, m.count)) k T1 ha O1 ⟨p', rfl, upd_same⟩ ev_c (ev_var rfl) fun H2 T2 C2 O2 => ?_
    dsimp only
    exact s_tell (w := .reads m.top) T2 (C1.trans C2) (ea_cons ev_c (ea_cons (ev_is (em_top k T2 (ev_var rfl)) rfl) ea_nil)) q
theorem ixN_pred {n c : Nat} (h1 : 1 ≤ c) (h2 : c ≤ n) : ixN n ((c : Int) - 1) = some (c - 1) := by
  have e : (c : Int) - 1 = ((c - 1 : Nat) : Int) := by omega
  rw [e]
  unfold ixN
  rw [if_pos (by omega), if_pos (by omega)]
  simp
theorem atI_pred {α : Type} {xs : List α} {c : Nat} {v : α} (h1 : 1 ≤ c) (h : xs[c - 1]? = some v) : atI xs ((c : Int) - 1) = some v := by
  have e : (c : Int) - 1 = ((c - 1 : Nat) : Int) := by omega
  rw [e]
  exact atI_nat h
theorem optV_non {o : Option Nat} : decide (optV o = .non) = decide (o = none) := by
  cases o with
  | none => rfl
  | some n => rfl
theorem pure_M_push {Z : Cs} (k : ZOk Z) (vs : List V) (H : Hp) (Q : VK) (E : XK) (h : sp_M_push Z vs H Q E) : t_M_push Z { nx := fun _ H' => Q .non H', rt := Q } (start ["self", "hand", "one"] vs) H := by
  obtain ⟨A, m, h, t, kk, a, rfl, T, ha, hseen, ⟨hc1, hc2⟩, hs, hz, oc, q⟩ := h
  obtain ⟨sv, O, S⟩ := T.handO ha
  unfold t_M_push
  walk_at "q"
  refine s_asg (em_hand k T ha (ev_var rfl) (ev_var rfl)) ?_
  walk_at "q"
  cases ef : (m.hd h).follow with
  | none =>
    have ep : m.push h t = (.links t, { m with links := m.links.set ((m.hd h).cell - 1) t }.setH h { m.hd h with follow := some t }) := by unfold M.push; rw [ef]
    rw [ep] at q
    refine s_ifT (et_is (et_test (ev_isN (eh_follow k O (ev_var rfl)))) (by rw [optV_non, ef]; rfl)) ?_
    have S' := S
    rw [hseen] at S'
    obtain ⟨p, rfl, hp⟩ := S'
    rw [← M.setH_self (m := m) (h := h)] at T
    walk_at "q"
    refine sh_follow (o := some t) k T ha O S (ev_ixT (eh_seen k O (ev_var rfl)) ev_c (SqT.of hp) (atI_nat (j := 0) rfl)) (ev_var rfl) fun H1 T1 C1 O1 => ?_
    walk_at "q"
    refine s_setL (j := (m.hd h).cell - 1) (eh_follow k O1 (ev_var rfl)) (em_links k T1 (ev_var rfl)) (ev_sub (eh_cell k O1 (ev_var rfl)) ev_c) T1.linksL (by rw [List.length_map]; exact ixN_pred hc1 hc2) ?_
    obtain ⟨T2, C2⟩ := T1.setLinks (m.links.set ((m.hd h).cell - 1) t)
    have el : (List.map natV (m.setH h { m.hd h with follow := some t }).links).set ((m.hd h).cell - 1) (optV (some t)) = (m.links.set ((m.hd h).cell - 1) t).map natV := by
      rw [List.map_set]
      rfl
    dsimp only at el ⊢
    rw [el]
    obtain ⟨sv2, O2, S2⟩ := (show MachAt Z _ A (M.setH { m with links := m.links.set ((m.hd h).cell - 1) t } h { m.hd h with follow := some t }) from T2).hO ha
    exact s_tell (w := .links t) T2 (C1.trans C2) (ea_cons ev_c (ea_cons (eh_follow k O2 (ev_var rfl)) ea_nil)) q
  | some f =>
    refine s_ifF (et_is (et_test (ev_isN (eh_follow k O (ev_var rfl)))) (by rw [optV_non, ef]; rfl)) ?_
    dsimp only [tNext]
    walk_at "q"
    refine s_if_of ?_
    show tMeth _ _ _ _ _ _ _ _ _ _
    refine s_meth (ev_var rfl) T.obj (mf_no _ _ _ (by simp)) (ea_cons (ev_var rfl) (ea_cons (eh_cell k O (ev_var rfl)) ea_nil)) ⟨A, m, h, _, a, rfl, T, ha, hz, oc, fun H1 T1 C1 => ?_⟩
    refine ⟨_, rfl, ?_⟩
    cases e : m.fits h with
    | false =>
      have ex : m.exch h (m.hd h).cell = (false, m.setH h (m.hd h).forgot) := by unfold M.exch; rw [e]; rfl
      have ep : m.push h t = (.misses, m.setH h (m.hd h).forgot) := by unfold M.push; rw [ef, e]; rfl
      rw [ex] at T1 ⊢
      rw [ep] at q
      refine iteT ?_
      dsimp only
      exact s_tell (w := .misses) T1 C1 (ea_cons ev_c ea_nil) q
    | true =>
      have ex : m.exch h (m.hd h).cell = (true, m.exchd h (m.hd h).cell) := by unfold M.exch; rw [e]; rfl
      have ep : m.push h t = (.ends .done, (m.exchd h (m.hd h).cell).endedH h .done) := by unfold M.push; rw [ef, e]; rfl
      rw [ex] at T1 ⊢
      rw [ep] at q
      refine iteF ?_
      dsimp only [tNext]
      refine s_meth (ev_var rfl) T1.obj (mf_no _ _ _ (by simp)) (ea_cons (ev_var rfl) (ea_cons ev_c ea_nil)) ⟨A, _, h, a, .done, rfl, T1, ha, hs, fun H2 v T2 C2 W => ?_⟩
      exact q H2 v T2 (C1.trans C2) W
end SS

set_option Elab.async false
set_option linter.all false
set_option maxRecDepth 100000
set_option maxHeartbeats 4000000
namespace SS
open PySem L2
local macro_rules | `(tactic| walk_at "q") => `(tactic| ((try dsimp only); refine s_seq ?_))

/-! ### small lemmas of lists -/
theorem find_at {p : Nat → Bool} : ∀ {l : List Nat} {i c : Nat}, l[i]? = some c → p c = true → (∀ j d, j < i → l[j]? = some d → p d = false) → l.find? p = some c
  | [], i, c, h, _, _ => by simp at h
  | a :: l, 0, c, h, hp, _ => by
    have e : a = c := Option.some.inj h
    subst e
    rw [List.find?_cons, hp]
  | a :: l, i + 1, c, h, hp, hn => by
    have e : p a = false := hn 0 a (by omega) rfl
    rw [List.find?_cons, e]
    exact find_at (i := i) (by simpa using h) hp fun j d hj hd => hn (j + 1) d (by omega) (by simpa using hd)
theorem find_none' {p : Nat → Bool} {l : List Nat} (h : ∀ (j : Nat) (d : Nat), l[j]? = some d → p d = false) : l.find? p = none := by
  rw [List.find?_eq_none]
  intro x hx
  obtain ⟨j, hj⟩ := List.getElem?_of_mem hx
  rw [h j x hj]
  exact Bool.false_ne_true
theorem erase_at : ∀ {l : List Nat} {i c : Nat}, l[i]? = some c → (∀ j, j < i → l[j]? ≠ some c) → l.eraseIdx i = l.erase c
  | [], i, c, h, _ => by simp at h
  | a :: l, 0, c, h, _ => by
    have e : a = c := Option.some.inj h
    subst e
    simp
  | a :: l, i + 1, c, h, hn => by
    have e : a ≠ c := fun z => hn 0 (by omega) (by rw [z] <;> rfl)
    rw [List.eraseIdx_cons_succ, List.erase_cons_tail (by simpa using e)]
    rw [erase_at (i := i) (by simpa using h) fun j hj q => hn (j + 1) (by omega) (by simpa using q)]
theorem eraseIdx_map' : ∀ (l : List Nat) (i : Nat), (l.map Int.ofNat).eraseIdx i = (l.eraseIdx i).map Int.ofNat
  | [], i => by simp
  | a :: l, 0 => by simp
  | a :: l, i + 1 => by simp [eraseIdx_map' l i]
theorem natV_int (l : List Nat) : l.map natV = (l.map Int.ofNat).map V.int := by
  rw [List.map_map]
  rfl
theorem inV_nat {c : Nat} {l : List Nat} : inV (natV c) (l.map natV) = l.contains c := by
  unfold inV
  rw [List.any_map]
  rw [List.contains_eq_any_beq]
  congr 1
  funext d
  show ((d : Int) == (c : Int)) = (c == d)
  rw [Bool.beq_eq_decide_eq, Bool.beq_eq_decide_eq]
  exact decide_eq_decide.mpr ⟨fun e => (Int.ofNat_inj.mp e).symm, fun e => by rw [e]⟩
theorem flat_nat (l : List Nat) : (l.map natV).all flatV = true := by
  rw [List.all_eq_true]
  intro x hx
  obtain ⟨n, _, rfl⟩ := List.mem_map.mp hx
  rfl
theorem same_newer {H H' : Hp} {D : Addr} {o : HO} (c : Same H H') (h : H D = none) : Same H (upd H' D o) := fun b u e => by
  rw [upd_ne (ne_of_none e h)]
  exact c b u e
theorem take_snoc {α : Type} {l : List α} {i : Nat} {x : α} (h : l[i]? = some x) : l.take (i + 1) = l.take i ++ [x] := by
  rw [List.take_add_one, h]
  rfl
theorem map_get {α β : Type} {f : α → β} {l : List α} {i : Nat} {y : β} (h : (l.map f)[i]? = some y) : ∃ x, l[i]? = some x ∧ y = f x := by
  rw [List.getElem?_map] at h
  cases e : l[i]? with
  | none =>
    rw [e] at h
    cases h
  | some x =>
    rw [e] at h
    exact ⟨x, rfl, (Option.some.inj h).symm⟩
theorem dec_nat {a b : Nat} : decide (V.int (a : Int) = V.int (b : Int)) = decide (a = b) :=
  decide_eq_decide.mpr ⟨fun e => Int.ofNat_inj.mp (V.int.inj e), fun e => by rw [e]⟩
theorem dec_nat0 {a : Nat} : decide (V.int (a : Int) = V.int 0) = decide (a = 0) := dec_nat (b := 0)
theorem MachAt.hd_get {Z : Cs} {A : MA} {m : M} {H : Hp} (T : MachAt Z H A m) {i : Nat} (h : i < m.hands.length) : m.hands[i]? = some (m.hd i) := by
  unfold M.hd
  rw [List.getD_eq_getElem?_getD, List.getElem?_eq_getElem h]
  rfl

theorem pure_M_marks {Z : Cs} (k : ZOk Z) (vs : List V) (H : Hp) (Q : VK) (E : XK) (h : sp_M_marks Z vs H Q E) : t_M_marks Z { nx := fun _ H' => Q .non H', rt := Q } (start ["self", "hand"] vs) H := by
  obtain ⟨A, m, rfl, T, hn, q⟩ := h
  unfold t_M_marks
  refine e_lcL (em_hands k T (ev_var rfl)) (SqL.of T.handsLL) (fun D i H' => Same H H' ∧ H' D = some (.lst ((((m.hands.take i).map (·.mark)).filter (· != 0)).map natV)))
    (fun D hD => ⟨Same.new hD, upd_same⟩) (fun D i H' _ _ p => SqL.of (T.same p.1).handsLL) (fun D i x H' hx hD p => ?_) (fun D H' hD p => ?_)
  · obtain ⟨a, ha, rfl⟩ := map_get hx
    have T' := T.same p.1
    obtain ⟨sv, O, S⟩ := T'.handO ha
    have hi := T'.len ha
    have eq := T'.hd_get hi
    refine ⟨rfl, ?_⟩
    refine et_test (ev_ne (eh_mark k O (ev_var rfl)) ev_c rfl) _ ?_
    rw [dec_nat0]
    by_cases e : (m.hd i).mark = 0
    · rw [decide_eq_true e]
      refine iteF ⟨p.1, ?_⟩
      rw [p.2, take_snoc eq, List.map_append, List.filter_append]
      simp [e]
    · rw [decide_eq_false e]
      refine iteT (eh_mark k O (ev_var rfl) _ ⟨_, p.2, ?_, same_newer p.1 hD, ?_⟩)
      · rw [List.length_map]
        refine Nat.lt_of_le_of_lt (List.length_filter_le _ _) ?_
        rw [List.length_map, List.length_take]
        exact Nat.lt_of_le_of_lt (Nat.min_le_left _ _) (Nat.lt_of_lt_of_le (Nat.lt_of_lt_of_le hi hn) (by decide))
      · rw [upd_same, take_snoc eq, List.map_append, List.filter_append]
        simp [e]
  · refine q D H' hD p.1 ?_
    rw [p.2, List.length_map, T.hs, List.take_length]
    rfl

def Rule.word : Rule → Str
  | .counts _ => "counts"
  | .marks _ => "marks"
  | .keeps => "keeps"
theorem ruleW (H : Hp) (a : Addr) (r : Rule) (h : RuleAt H a r) : ∃ xs, H a = some (.tup xs) ∧ atI xs 0 = some (.str r.word) := by
  cases r with
  | counts n => exact ⟨_, h, atI_nat (j := 0) rfl⟩
  | marks hs =>
    obtain ⟨t, h, _⟩ := h
    exact ⟨_, h, atI_nat (j := 0) rfl⟩
  | keeps => exact ⟨_, h, atI_nat (j := 0) rfl⟩
theorem pure_M_taken {Z : Cs} (k : ZOk Z) (vs : List V) (H : Hp) (Q : VK) (E : XK) (h : sp_M_taken Z vs H Q E) : t_M_taken Z { nx := fun _ H' => Q .non H', rt := Q } (start ["self", "value", "cell"] vs) H := by
  obtain ⟨A, m, v, rfl, T, hn, hw, hll, hf, hfr, q⟩ := h
  unfold t_M_taken
  walk_at "q"
  have wr := fun H' (c : Same H H') => ruleW H' A.rule m.rule (T.same c).rule
  refine s_forLN (xs := m.freed.map natV) (fun l i s' H' => (∃ w, s' = [some (.ref A.p), some (.int v), w]) ∧ Same H H' ∧ H' l = some (.lst (m.freed.map natV)) ∧ ∀ j c, j < i → m.freed[j]? = some c → m.rule = .keeps ∨ m.marked.contains c = true)
    (fun R hR => e_listOf (em_freed k T (ev_var rfl)) (.inl (SqL.of T.freedL)) fun l hl => hR l _ hl (Same.new hl) upd_same)
    (fun l H' hl c hL => ⟨⟨none, rfl⟩, c, hL, fun j c hj => by omega⟩) (fun l i s' H' _ _ p => SqL.of p.2.2.1) ?_ ?_
  · rintro l i x s' H' hx hl ⟨⟨w, rfl⟩, c, hL, hr⟩
    obtain ⟨cell, hc, rfl⟩ := map_get hx
    have T' := T.same c
    obtain ⟨xs, hR, hat⟩ := wr H' c
    show tIfS _ _ _ _ _ _
    by_cases ek : m.rule = .keeps
    · refine s_ifF ?_ ?_
      · refine et_is (et_and (et_test (ev_ne (ev_ixT (em_rule k T' (ev_var rfl)) ev_c (SqT.of hR) hat) ev_c rfl)) (b := true) fun e => ?_) ?_
        · rw [ek] at e
          exact absurd e (by decide +kernel)
        · rw [ek]
          decide +kernel
      · exact ⟨⟨_, rfl⟩, c, hL, fun j d hj hd => .inl ek⟩
    · refine s_if_of ?_
      refine (et_test (b := true) (ev_is (ev_ne (ev_ixT (em_rule k T' (ev_var rfl)) ev_c (SqT.of hR) hat) ev_c rfl) ?_)) _ ?_
      · cases er : m.rule with
        | counts n => exact (by decide +kernel : (V.bl !decide (V.str "counts" = V.str "keeps")) = V.bl true)
        | marks hs => exact (by decide +kernel : (V.bl !decide (V.str "marks" = V.str "keeps")) = V.bl true)
        | keeps => exact absurd er ek
      refine iteT ?_
      refine t_test_of (t_op_of (ev_var rfl _ ?_))
      refine s_meth (ev_var rfl) T'.obj (mf_no _ _ _ (by simp)) ea_nil ⟨A, m, rfl, T', hn, fun l2 H2 hl2 c2 hL2 => ?_⟩
      refine ⟨l2, _, rfl, .inl (SqL.of hL2), rfl, flat_nat _, ⟨_, rfl, ?_⟩⟩
      have hi : i < m.freed.length := (List.getElem?_eq_some_iff.mp hc).1
      rw [inV_nat]
      cases em : m.marked.contains cell with
      | true =>
        refine iteF ⟨⟨_, rfl⟩, fun b o e => c2 b o (c b o e), c2 _ _ hL, fun j d hj hd => ?_⟩
        by_cases ej : j < i
        · exact hr j d ej hd
        · have e : j = i := by omega
          subst e
          rw [hc] at hd
          cases hd
          exact .inr em
      | false =>
        refine iteT ?_
        have c12 : Same H H2 := fun b o e => c2 b o (c b o e)
        have T2 := T.same c12
        have hfi : ∀ (j : Nat) (d : Nat), j < i → m.freed[j]? = some d → (!m.marked.contains d) = false := fun j d hj hd => by
          rcases hr j d hj hd with z | z
          · exact absurd z ek
          · rw [z]
            rfl
        have hpick : pick m.rule m.marked m.freed = some cell := by
          unfold pick
          rw [if_neg ek]
          exact find_at hc (by rw [em]; rfl) hfi
        have hne : ∀ j, j < i → m.freed[j]? ≠ some cell := fun j hj q => by
          have := hfi j cell hj q
          rw [em] at this
          cases this
        obtain ⟨c1, c2'⟩ := hfr cell (List.mem_of_getElem? hc)
        have et : m.taken v = (cell, { m with freed := m.freed.erase cell, worths := m.worths.set (cell - 1) v }) := by unfold M.taken; rw [hpick]
        rw [et] at q
        walk_at "q"
        have L2 := T2.freedL
        rw [natV_int] at L2
        refine s_drop' (em_freed k T2 (ev_var rfl) _ ⟨.inl ⟨rfl, _, SqL.of L2⟩, ev_var rfl _ ⟨A.freed, _, cell, i, rfl, rfl, L2, by rw [List.getElem?_map, hc] <;> rfl, fun j hj e => ?_, ?_⟩⟩)
        · obtain ⟨d, hd, e2⟩ : ∃ d, m.freed[j]? = some d ∧ (cell : Int) = (d : Int) := by
            rw [List.getElem?_map] at e
            cases e3 : m.freed[j]? with
            | none => rw [e3] at e; cases e
            | some d => rw [e3] at e; exact ⟨d, rfl, (Option.some.inj e).symm⟩
          exact hne j hj (by rw [hd, Int.ofNat_inj.mp e2])
        have ee : ((m.freed.map Int.ofNat).eraseIdx i).map V.int = (m.freed.erase cell).map natV := by
          rw [← erase_at hc hne, natV_int, eraseIdx_map']
        rw [ee]
        obtain ⟨T3, C3⟩ := T2.setFreed (m.freed.erase cell)
        walk_at "q"
        refine s_setL (j := cell - 1) (ev_var rfl) (em_worths k T3 (ev_var rfl)) (ev_sub (ev_var rfl) ev_c) T3.worthsL (by rw [List.length_map]; exact ixN_pred c1 c2') ?_
        have ew : (List.map V.int { m with freed := m.freed.erase cell }.worths).set (cell - 1) (.int v) = (m.worths.set (cell - 1) v).map V.int := by rw [List.map_set]
        obtain ⟨T4, C4⟩ := T3.setWorths (m.worths.set (cell - 1) v)
        dsimp only at ew ⊢
        rw [ew]
        exact s_ret (ev_var rfl) (q _ T4 (((Chg.same c12).trans C3).trans C4))
  · rintro l s' H' hl ⟨⟨w, rfl⟩, c, hL, hr⟩
    have T' := T.same c
    rw [List.length_map] at hr
    have hpick : pick m.rule m.marked m.freed = none := by
      unfold pick
      by_cases ek : m.rule = .keeps
      · rw [if_pos ek]
      · rw [if_neg ek]
        refine find_none' fun j d hd => ?_
        rcases hr j d (List.getElem?_eq_some_iff.mp hd).1 hd with z | z
        · exact absurd z ek
        · rw [z]
          rfl
    have et : m.taken v = (m.worths.length + 1, { m with worths := m.worths ++ [v], links := m.links ++ [0] }) := by unfold M.taken; rw [hpick]
    rw [et] at q
    walk_at "q"
    refine s_app (em_worths k T' (ev_var rfl)) T'.worthsL (ev_var rfl) (by rw [List.length_map]; exact Nat.lt_of_lt_of_le hw (by decide)) ?_
    have e1 : List.map V.int m.worths ++ [V.int v] = (m.worths ++ [v]).map V.int := by rw [List.map_append]; rfl
    rw [e1]
    obtain ⟨T2, C2⟩ := T'.setWorths (m.worths ++ [v])
    walk_at "q"
    refine s_app (em_links k T2 (ev_var rfl)) T2.linksL ev_c (by rw [List.length_map]; exact Nat.lt_of_lt_of_le hll (by decide)) ?_
    have e2 : List.map natV { m with worths := m.worths ++ [v] }.links ++ [V.int 0] = (m.links ++ [0]).map natV := by rw [List.map_append]; rfl
    rw [e2]
    obtain ⟨T3, C3⟩ := T2.setLinks (m.links ++ [0])
    dsimp only
    refine s_ret (ev_is (ev_lenL (em_worths k T3 (ev_var rfl)) (SqL.of T3.worthsL)) ?_) (q _ T3 (((Chg.same c).trans C2).trans C3))
    simp
end SS

set_option Elab.async false
set_option linter.all false
set_option maxRecDepth 100000
set_option maxHeartbeats 4000000
namespace SS
open PySem L2
local macro_rules | `(tactic| walk_at "q") => `(tactic| ((try dsimp only); refine s_seq ?_))

theorem named_marks {m : M} {h : Nat} {hs : List Nat} (e : m.rule = .marks hs) : m.rule.named h = hs.contains h := by rw [e]; rfl
/-- self.rule[0] == "marks" and hand in self.rule[1] and not one.looked -/
theorem ev_named {Z : Cs} {A : MA} {m : M} {H : Hp} {h : Nat} {a : HA} {sv : V} {x : Hd} {s : L2.St} {n : Nat} (k : ZOk Z) (T : MachAt Z H A m) (O : HandO Z H a sv x) (h0 : s[0]? = some (some (.ref A.p))) (h1 : s[1]? = some (some (.int h))) (h2 : s[n]? = some (some (.ref a.h))) :
    EvT (tAnd (tTest (tOp rEq (tOp (rIxT Z.K) (tFld Z.K (tVar 0) "rule") (tC (.int 0))) (tC (.str "marks")))) (tAnd (tTest (tOp (rIn Z.K false) (tVar 1) (tOp (rIxT Z.K) (tFld Z.K (tVar 0) "rule") (tC (.int 1))))) (tNot (tB (tFld Z.K (tVar n) "looked")))))
      s H (decide (m.rule.named h = true ∧ x.looked = false)) := by
  cases er : m.rule with
  | counts c =>
    have R : H A.rule = some (.tup [.str "counts", .int c]) := by
      have := T.rule
      rw [er] at this
      exact this
    refine et_is (et_and (b := true) (et_test (ev_eq (ev_ixT (em_rule k T (ev_var h0)) ev_c (SqT.of R) (atI_nat (j := 0) rfl)) ev_c rfl)) fun e => ?_) ?_
    · exact absurd e (by decide +kernel)
    · have n : decide (V.str "counts" = V.str "marks") = false := by decide +kernel
      rw [n]
      simp [Rule.named]
  | keeps =>
    have R : H A.rule = some (.tup [.str "keeps"]) := by
      have := T.rule
      rw [er] at this
      exact this
    refine et_is (et_and (b := true) (et_test (ev_eq (ev_ixT (em_rule k T (ev_var h0)) ev_c (SqT.of R) (atI_nat (j := 0) rfl)) ev_c rfl)) fun e => ?_) ?_
    · exact absurd e (by decide +kernel)
    · have n : decide (V.str "keeps" = V.str "marks") = false := by decide +kernel
      rw [n]
      simp [Rule.named]
  | marks hs =>
    have R : ∃ t, H A.rule = some (.tup [.str "marks", .ref t]) ∧ H t = some (.tup (hs.map natV)) := by
      have := T.rule
      rw [er] at this
      exact this
    obtain ⟨t, R, R2⟩ := R
    refine et_is (et_and (et_test (ev_eq (ev_ixT (em_rule k T (ev_var h0)) ev_c (SqT.of R) (atI_nat (j := 0) rfl)) ev_c rfl)) fun e =>
      et_and (et_test (ev_inT (ev_var h1) (ev_ixT (em_rule k T (ev_var h0)) ev_c (SqT.of R) (atI_nat (j := 1) rfl)) (SqT.of R2) rfl (flat_nat _))) fun _ => et_not (et_B (eh_looked k O (ev_var h2)))) ?_
    have e1 : decide (V.str "marks" = V.str "marks") = true := decide_eq_true rfl
    rw [e1]
    have e2 : inV (V.int (h : Int)) (hs.map natV) = hs.contains h := inV_nat (c := h)
    rw [Bool.true_and, if_neg Bool.false_ne_true, e2]
    show (hs.contains h && !x.looked) = decide ((Rule.marks hs).named h = true ∧ x.looked = false)
    rw [Bool.decide_and, Bool.decide_eq_true]
    show (hs.contains h && !x.looked) = (hs.contains h && _)
    cases x.looked <;> simp
theorem pure_M_pop {Z : Cs} (k : ZOk Z) (vs : List V) (H : Hp) (Q : VK) (E : XK) (h : sp_M_pop Z vs H Q E) : t_M_pop Z { nx := fun _ H' => Q .non H', rt := Q } (start ["self", "hand", "one", "cell", "follow"] vs) H := by
  obtain ⟨A, m, h, t, kk, a, rfl, T, ha, hseen, ⟨ht1, ht2⟩, hcw, hs, hz, hf, oc, q⟩ := h
  obtain ⟨sv, O, S⟩ := T.handO ha
  unfold t_M_pop
  walk_at "q"
  refine s_asg (em_hand k T ha (ev_var rfl) (ev_var rfl)) ?_
  walk_at "q"
  refine s_if (et_test (ev_ne (eh_cell k O (ev_var rfl)) ev_c rfl)) (fun e => ?_) (fun e => ?_)
  · have e1 : (m.hd h).cell ≠ 0 := fun z => by
      rw [z] at e
      exact absurd e (by decide)
    have ep : m.pop h t = (.ends (.val (m.worths.getD ((m.hd h).cell - 1) 0)), { m with freed := m.freed ++ [(m.hd h).cell] }.endedH h (.val (m.worths.getD ((m.hd h).cell - 1) 0))) := by unfold M.pop; rw [if_pos e1]
    rw [ep] at q
    walk_at "q"
    refine s_app (em_freed k T (ev_var rfl)) T.freedL (eh_cell k O (ev_var rfl)) (by rw [List.length_map]; exact Nat.lt_of_lt_of_le hf (by decide)) ?_
    have e2 : List.map natV m.freed ++ [V.int (m.hd h).cell] = (m.freed ++ [(m.hd h).cell]).map natV := by rw [List.map_append]; rfl
    rw [e2]
    obtain ⟨T1, C1⟩ := T.setFreed (m.freed ++ [(m.hd h).cell])
    obtain ⟨sv1, O1, S1⟩ := T1.handO ha
    dsimp only
    have hv : (m.worths.map V.int)[(m.hd h).cell - 1]? = some (ansV (.val (m.worths.getD ((m.hd h).cell - 1) 0))) := by
      rw [List.getElem?_map, List.getD_eq_getElem?_getD, List.getElem?_eq_getElem (by omega)]
      rfl
    refine s_meth (ev_var rfl) T1.obj (mf_no _ _ _ (by simp)) (ea_cons (ev_var rfl) (ea_cons (ev_ixL (em_worths k T1 (ev_var rfl)) (ev_sub (eh_cell k O1 (ev_var rfl)) ev_c) (SqL.of T1.worthsL) (atI_pred (by show 1 ≤ (m.hd h).cell; omega) hv)) ea_nil)) ⟨A, _, h, a, _, rfl, T1, ha, hs, fun H2 v T2 C2 W => ?_⟩
    exact q H2 v T2 (C1.trans C2) W
  have e1 : (m.hd h).cell = 0 := by
    have := e
    simp only [Bool.not_eq_false', decide_eq_true_eq] at this
    exact Int.ofNat_inj.mp (V.int.inj this)
  dsimp only [tNext]
  have S' := S
  rw [hseen] at S'
  obtain ⟨p, rfl, hp⟩ := S'
  walk_at "q"
  refine s_asg (ev_ixT (eh_seen k O (ev_var rfl)) ev_c (SqT.of hp) (atI_nat (j := 0) rfl)) ?_
  walk_at "q"
  refine s_if (ev_named k T O rfl rfl rfl) (fun e => ?_) (fun e => ?_)
  · have e2 := of_decide_eq_true e
    have ep : m.pop h t = m.guard h t := by
      unfold M.pop
      rw [if_neg (by omega), if_pos e2]
    rw [ep] at q
    dsimp only
    refine s_meth (ev_var rfl) T.obj (mf_no _ _ _ (by simp)) (ea_cons (ev_var rfl) (ea_cons (ev_var rfl) ea_nil)) ⟨A, m, h, t, a, rfl, T, ha, q⟩
  have e2 := of_decide_eq_false e
  dsimp only [tNext]
  have hlk : (m.links.map natV)[t - 1]? = some (natV (m.links.getD (t - 1) 0)) := by
    rw [List.getElem?_map, List.getD_eq_getElem?_getD, List.getElem?_eq_getElem (by omega)]
    rfl
  walk_at "q"
  cases ef : (m.hd h).follow with
  | none =>
    have ep : m.pop h t = (.follows (m.links.getD (t - 1) 0), m.setH h { m.hd h with follow := some (m.links.getD (t - 1) 0) }) := by
      unfold M.pop
      rw [if_neg (by omega), if_neg e2, ef]
    rw [ep] at q
    refine s_ifT (et_is (et_test (ev_isN (eh_follow k O (ev_var rfl)))) (by rw [optV_non, ef]; rfl)) ?_
    rw [← M.setH_self (m := m) (h := h)] at T
    walk_at "q"
    refine sh_follow (o := some (m.links.getD (t - 1) 0)) k T ha O S (ev_ixL (em_links k T (ev_var rfl)) (ev_sub (ev_var rfl) ev_c) (SqL.of T.linksL) (atI_pred ht1 hlk)) (ev_var rfl) fun H1 T1 C1 O1 => ?_
    dsimp only
    exact s_tell (w := .follows (m.links.getD (t - 1) 0)) T1 C1 (ea_cons ev_c (ea_cons (eh_follow k O1 (ev_var rfl)) ea_nil)) q
  | some f =>
    refine s_ifF (et_is (et_test (ev_isN (eh_follow k O (ev_var rfl)))) (by rw [optV_non, ef]; rfl)) ?_
    dsimp only [tNext]
    walk_at "q"
    refine s_asg (ev_is (eh_follow k O (ev_var rfl)) (show _ = V.int f by rw [ef]; rfl)) ?_
    walk_at "q"
    refine s_if_of ?_
    show tMeth _ _ _ _ _ _ _ _ _ _
    refine s_meth (ev_var rfl) T.obj (mf_no _ _ _ (by simp)) (ea_cons (ev_var rfl) (ea_cons (ev_var rfl) ea_nil)) ⟨A, m, h, f, a, rfl, T, ha, hz, oc, fun H1 T1 C1 => ?_⟩
    refine ⟨_, rfl, ?_⟩
    cases e : m.fits h with
    | false =>
      have ex : m.exch h f = (false, m.setH h (m.hd h).forgot) := by unfold M.exch; rw [e]; rfl
      have ep : m.pop h t = (.misses, m.setH h (m.hd h).forgot) := by
        unfold M.pop
        rw [if_neg (by omega), if_neg e2, ef, e]
        rfl
      rw [ex] at T1 ⊢
      rw [ep] at q
      refine iteT ?_
      dsimp only
      exact s_tell (w := .misses) T1 C1 (ea_cons ev_c ea_nil) q
    | true =>
      have ex : m.exch h f = (true, m.exchd h f) := by unfold M.exch; rw [e]; rfl
      have ep : m.pop h t = (.exchanges f, { m.exchd h f with strayed := m.strayed || m.links.getD (t - 1) 0 != f }.setH h { m.hd h with cell := t }) := by
        unfold M.pop
        rw [if_neg (by omega), if_neg e2, ef, e]
        rfl
      rw [ex] at T1 ⊢
      rw [ep] at q
      refine iteF ?_
      dsimp only [tNext]
      walk_at "q"
      have hne : Ev (tOp (rNeD Z.K) (tOp (rIxL Z.K) (tFld Z.K (tVar 0) "links") (tOp rSubI (tVar 3) (tC (.int 1)))) (tVar 4)) ((((start ["self", "hand", "one", "cell", "follow"] [V.ref A.p, V.int h]).set 2 (some (V.ref a.h))).set 3 (some (V.int t))).set 4 (some (V.int f))) H1 (.bl (m.links.getD (t - 1) 0 != f)) := by
        refine ev_is (ev_neD (ev_ixL (em_links k T1 (ev_var rfl)) (ev_sub (ev_var rfl) ev_c) (SqL.of T1.linksL) (atI_pred ht1 hlk)) (ev_var rfl) (.int _) (.int _) rfl rfl) ?_
        show V.bl (!((m.links.getD (t - 1) 0 : Nat) : Int) == (f : Int)) = _
        congr 1
        show _ = !(m.links.getD (t - 1) 0 == f)
        congr 1
        rw [Bool.beq_eq_decide_eq, Bool.beq_eq_decide_eq]
        exact decide_eq_decide.mpr Int.ofNat_inj
      refine sm_strayed (t := m.strayed || m.links.getD (t - 1) 0 != f) k T1 (ev_orV (ev_is (em_strayed k T1 (ev_var rfl)) rfl) fun _ => hne) (ev_var rfl) fun H2 T2 C2 K2 => ?_
      walk_at "q"
      have T2' : MachAt Z H2 A ({ m.exchd h f with strayed := m.strayed || m.links.getD (t - 1) 0 != f }.setH h (m.hd h)) := by
        have z : { m.exchd h f with strayed := m.strayed || m.links.getD (t - 1) 0 != f }.setH h (m.hd h) = { m.exchd h f with strayed := m.strayed || m.links.getD (t - 1) 0 != f } := M.setH_self (m := { m.exchd h f with strayed := m.strayed || m.links.getD (t - 1) 0 != f }) (h := h)
        rw [z]
        exact T2
      obtain ⟨sv2, O2, S2⟩ := T2'.hO ha
      refine sh_cell (n := t) k T2' ha O2 S2 (ev_var rfl) (ev_var rfl) fun H3 T3 C3 O3 => ?_
      dsimp only
      exact s_tell (w := .exchanges f) T3 ((C1.trans C2).trans C3) (ea_cons ev_c (ea_cons (ev_var rfl) ea_nil)) q
end SS

set_option Elab.async false
set_option linter.all false
set_option maxRecDepth 100000
set_option maxHeartbeats 4000000
namespace SS
open PySem L2
local macro_rules | `(tactic| walk_at "q") => `(tactic| ((try dsimp only); refine s_seq ?_))

theorem ev_word {Z : Cs} {H : Hp} {s : L2.St} {n : Nat} {q : Addr} {d : Deed} (h : s[n]? = some (some (.ref q))) (hq : H q = some (.tup (deedVs d))) :
    Ev (tOp (rIxT Z.K) (tVar n) (tC (.int 0))) s H (.str (match d with | .pop => "pop" | .push _ => "push")) := by
  cases d with
  | pop => exact ev_ixT (ev_var h) ev_c (SqT.of hq) (atI_nat (j := 0) rfl)
  | push v => exact ev_ixT (ev_var h) ev_c (SqT.of hq) (atI_nat (j := 0) rfl)
theorem pure_M_turn {Z : Cs} (k : ZOk Z) (vs : List V) (H : Hp) (Q : VK) (E : XK) (h : sp_M_turn Z vs H Q E) : t_M_turn Z { nx := fun _ H' => Q .non H', rt := Q } (start ["self", "hand", "one", "deed"] vs) H := by
  obtain ⟨A, m, h, rfl, T, W, hl, q⟩ := h
  obtain ⟨a, ha⟩ := T.hand_of hl
  obtain ⟨sv, O, S⟩ := T.handO ha
  unfold t_M_turn
  walk_at "q"
  refine s_meth (ev_var rfl) T.obj (mf_no _ _ _ (by simp)) (ea_cons (ev_var rfl) ea_nil) ⟨A, m, h, a, rfl, T, ha, ?_⟩
  show ({ nx := _, rt := Q : Ends }).nx _ _
  walk_at "q"
  refine s_if_of (t_B_of (s_meth (ev_var rfl) T.obj (mf_no _ _ _ (by simp)) (ea_cons (ev_var rfl) ea_nil) ⟨A, m, h, a, rfl, T, ha, ⟨_, rfl, ?_⟩⟩))
  cases er : m.rests h with
  | true =>
    have ep : (m.prog h)[(m.hd h).at_]? = none := by
      unfold M.rests at er
      have : (m.hd h).at_ = (m.prog h).length := eq_of_beq er
      rw [this]
      exact List.getElem?_eq_none (Nat.le_refl _)
    have et : m.turn h = (.rests, m) := by unfold M.turn; rw [ep]
    rw [et] at q
    refine iteT ?_
    dsimp only
    exact s_ret_of (e_tup (ea_cons ev_c ea_nil) (by show 1 ≤ 1000; decide) fun p hp => q _ _ (T.new hp) (Chg.same (Same.new hp)) ⟨p, rfl, upd_same⟩ fun _ => Same.new hp)
  | false =>
    have q : ∀ H' v, MachAt Z H' A (m.turn h).2 → Chg A.owns H H' → TellAt H' v (m.turn h).1 → Q v H' := fun H' v a b c => q H' v a b c fun z => by
      rw [er] at z
      cases z
    refine iteF ?_
    dsimp only [tNext]
    have hat : (m.hd h).at_ < (m.prog h).length := by
      have := W.at_ h
      unfold M.rests at er
      have : (m.hd h).at_ ≠ (m.prog h).length := by simpa using er
      omega
    obtain ⟨d, hd⟩ : ∃ d, (m.prog h)[(m.hd h).at_]? = some d := ⟨_, List.getElem?_eq_getElem hat⟩
    obtain ⟨us, p, P, hp, hq⟩ := T.deed ha hd
    walk_at "q"
    refine s_asg (ev_ixL (eh_program k O (ev_var rfl)) (eh_at k O (ev_var rfl)) (SqL.of P) hp) ?_
    walk_at "q"
    have n1 : decide (V.str "pop" = V.str "push") = false := by decide +kernel
    have n2 : decide (V.str "push" = V.str "push") = true := decide_eq_true rfl
    cases d with
    | pop =>
      refine s_ifF (et_is (et_and (b := true) (et_test (ev_eq (ev_word rfl hq) ev_c rfl)) fun e => absurd (n1.symm.trans e) Bool.false_ne_true) (by rw [n1]; rfl)) ?_
      dsimp only [tNext]
      walk_at "q"
      cases es : (m.hd h).seen with
      | none =>
        have et : m.turn h = m.read h .pop := by unfold M.turn; rw [hd, es]
        rw [et] at q
        have ev : sv = .non := by
          rw [es] at S
          exact S
        refine s_ifT (et_is (et_test (ev_isN (eh_seen k O (ev_var rfl)))) (by rw [ev]; rfl)) ?_
        dsimp only
        exact s_meth (ev_var rfl) T.obj (mf_no _ _ _ (by simp)) (ea_cons (ev_var rfl) ea_nil) ⟨A, m, h, a, .pop, rfl, T, ha, hd, W.sl h, W.el, q⟩
      | some z =>
        obtain ⟨t, kk⟩ := z
        have et : m.turn h = m.pop h t := by unfold M.turn; rw [hd, es]
        rw [et] at q
        have ev : sv ≠ .non := by
          rw [es] at S
          obtain ⟨y, e, _⟩ := S
          rw [e]
          intro z
          cases z
        refine s_ifF (et_is (et_test (ev_isN (eh_seen k O (ev_var rfl)))) (decide_eq_false ev)) ?_
        dsimp only [tNext]
        walk_at "q"
        refine s_ifF (et_is (et_test (ev_eq (ev_word rfl hq) ev_c rfl)) n1) ?_
        dsimp only [tNext]
        obtain ⟨p1, p2⟩ := W.popC h _ hd es
        exact s_meth (ev_var rfl) T.obj (mf_no _ _ _ (by simp)) (ea_cons (ev_var rfl) ea_nil) ⟨A, m, h, t, kk, a, rfl, T, ha, es, ⟨p1, by rw [W.ll]; exact p2⟩, W.cell h, W.sl h, W.el, W.fl, W.count, q⟩
    | push v =>
      by_cases ec : (m.hd h).cell = 0
      · refine s_ifT (et_is (et_and (et_test (ev_eq (ev_word rfl hq) ev_c rfl)) fun _ => et_test (ev_eq (eh_cell k O (ev_var rfl)) ev_c rfl)) (by
          have n3 : decide (V.int ((m.hd h).cell : Int) = V.int 0) = true := by rw [ec]; rfl
          rw [n3]
          rfl)) ?_
        have et : m.turn h = (.takes (m.taken v).1, (m.taken v).2.setH h { m.hd h with cell := (m.taken v).1 }) := by unfold M.turn; rw [hd]; exact if_pos ec
        rw [et] at q
        walk_at "q"
        show tMeth _ _ _ _ _ _ _ _ _ _
        refine s_meth (ev_var rfl) T.obj (mf_no _ _ _ (by simp)) (ea_cons (ev_ixT (ev_var rfl) ev_c (SqT.of hq) (atI_nat (j := 1) rfl)) ea_nil) ⟨A, m, v, rfl, T, W.hn, W.wl, by rw [W.ll]; exact W.wl, Nat.le_of_lt W.fl, W.fr, fun H1 T1 C1 => ?_⟩
        show sFld Z.K (tVar 2) (tC (.int (m.taken v).1)) "cell" _ _ _
        have eh : (m.taken v).2.hd h = m.hd h := by
          unfold M.taken
          cases pick m.rule m.marked m.freed <;> rfl
        rw [← M.setH_self (m := (m.taken v).2) (h := h), eh] at T1
        obtain ⟨sv1, O1, S1⟩ := T1.hO ha
        refine sh_cell (n := (m.taken v).1) k T1 ha O1 S1 ev_c (ev_var rfl) fun H2 T2 C2 O2 => ?_
        dsimp only
        exact s_tell (w := .takes (m.taken v).1) T2 (C1.trans C2) (ea_cons ev_c (ea_cons (ev_is (eh_cell k O2 (ev_var rfl)) rfl) ea_nil)) q
      · refine s_ifF (et_is (et_and (et_test (ev_eq (ev_word rfl hq) ev_c rfl)) fun _ => et_test (ev_eq (eh_cell k O (ev_var rfl)) ev_c rfl)) (by
          have n3 : decide (V.int ((m.hd h).cell : Int) = V.int 0) = false := by rw [dec_nat0]; exact decide_eq_false ec
          rw [n3, Bool.and_false])) ?_
        dsimp only [tNext]
        walk_at "q"
        cases es : (m.hd h).seen with
        | none =>
          have et : m.turn h = m.read h (.push v) := by unfold M.turn; rw [hd, es]; exact if_neg ec
          rw [et] at q
          have ev : sv = .non := by
            rw [es] at S
            exact S
          refine s_ifT (et_is (et_test (ev_isN (eh_seen k O (ev_var rfl)))) (by rw [ev]; rfl)) ?_
          dsimp only
          exact s_meth (ev_var rfl) T.obj (mf_no _ _ _ (by simp)) (ea_cons (ev_var rfl) ea_nil) ⟨A, m, h, a, .push v, rfl, T, ha, hd, W.sl h, W.el, q⟩
        | some z =>
          obtain ⟨t, kk⟩ := z
          have et : m.turn h = m.push h t := by unfold M.turn; rw [hd, es]; exact if_neg ec
          rw [et] at q
          have ev : sv ≠ .non := by
            rw [es] at S
            obtain ⟨y, e, _⟩ := S
            rw [e]
            intro z
            cases z
          refine s_ifF (et_is (et_test (ev_isN (eh_seen k O (ev_var rfl)))) (decide_eq_false ev)) ?_
          dsimp only [tNext]
          walk_at "q"
          refine s_ifT (et_is (et_test (ev_eq (ev_word rfl hq) ev_c rfl)) n2) ?_
          dsimp only
          exact s_meth (ev_var rfl) T.obj (mf_no _ _ _ (by simp)) (ea_cons (ev_var rfl) ea_nil) ⟨A, m, h, t, kk, a, rfl, T, ha, es, ⟨W.pushC h v _ hd es, by rw [W.ll]; exact W.cell h⟩, W.sl h, W.el, W.count, q⟩

/-! ### what is told as it stands -/
theorem pure_M_is_stale {Z : Cs} (k : ZOk Z) (vs : List V) (H : Hp) (Q : VK) (E : XK) (h : sp_M_is_stale Z vs H Q E) : t_M_is_stale Z { nx := fun _ H' => Q .non H', rt := Q } (start ["self"] vs) H := by
  obtain ⟨A, m, rfl, T, q⟩ := h
  exact s_ret (em_strayed k T (ev_var rfl)) q
theorem pure_M_answers {Z : Cs} (k : ZOk Z) (vs : List V) (H : Hp) (Q : VK) (E : XK) (h : sp_M_answers Z vs H Q E) : t_M_answers Z { nx := fun _ H' => Q .non H', rt := Q } (start ["self", "hand"] vs) H := by
  obtain ⟨A, m, h, a, rfl, T, ha, q⟩ := h
  obtain ⟨sv, O, S⟩ := T.handO ha
  refine s_meth (ev_var rfl) T.obj (mf_no _ _ _ (by simp)) (ea_cons (ev_var rfl) ea_nil) ⟨A, m, h, a, rfl, T, ha, ?_⟩
  exact ⟨a.h, Z.H, a.dx, _, _, rfl, O, k.clH, k.h_said, hf_said _ _ _, a.said, _, rfl, .inl (SqL.of (T.saidL ha)), q⟩
theorem pure_M_marked {Z : Cs} (k : ZOk Z) (vs : List V) (H : Hp) (Q : VK) (E : XK) (h : sp_M_marked Z vs H Q E) : t_M_marked Z { nx := fun _ H' => Q .non H', rt := Q } (start ["self", "hand"] vs) H := by
  obtain ⟨A, m, h, a, rfl, T, ha, q⟩ := h
  obtain ⟨sv, O, S⟩ := T.handO ha
  refine s_meth (ev_var rfl) T.obj (mf_no _ _ _ (by simp)) (ea_cons (ev_var rfl) ea_nil) ⟨A, m, h, a, rfl, T, ha, ?_⟩
  exact ⟨a.h, Z.H, a.dx, _, _, rfl, O, k.clH, k.h_mark, hf_mark _ _ _, q⟩
theorem pure_M_order {Z : Cs} (k : ZOk Z) (vs : List V) (H : Hp) (Q : VK) (E : XK) (h : sp_M_order Z vs H Q E) : t_M_order Z { nx := fun _ H' => Q .non H', rt := Q } (start ["self"] vs) H := by
  obtain ⟨A, m, rfl, T, q⟩ := h
  obtain ⟨us, L, hu⟩ := T.endsL
  exact e_listOf (em_ends k T (ev_var rfl)) (.inl (SqL.of L)) fun l hl => q l us hl hu
theorem pure_M_free {Z : Cs} (k : ZOk Z) (vs : List V) (H : Hp) (Q : VK) (E : XK) (h : sp_M_free Z vs H Q E) : t_M_free Z { nx := fun _ H' => Q .non H', rt := Q } (start ["self"] vs) H := by
  obtain ⟨A, m, rfl, T, q⟩ := h
  exact e_listOf (em_freed k T (ev_var rfl)) (.inl (SqL.of T.freedL)) q
theorem pure_M_nexts {Z : Cs} (k : ZOk Z) (vs : List V) (H : Hp) (Q : VK) (E : XK) (h : sp_M_nexts Z vs H Q E) : t_M_nexts Z { nx := fun _ H' => Q .non H', rt := Q } (start ["self"] vs) H := by
  obtain ⟨A, m, rfl, T, q⟩ := h
  exact e_listOf (em_links k T (ev_var rfl)) (.inl (SqL.of T.linksL)) q
theorem pure_M_top_now {Z : Cs} (k : ZOk Z) (vs : List V) (H : Hp) (Q : VK) (E : XK) (h : sp_M_top_now Z vs H Q E) : t_M_top_now Z { nx := fun _ H' => Q .non H', rt := Q } (start ["self"] vs) H := by
  obtain ⟨A, m, rfl, T, q⟩ := h
  exact e_tup (ea_cons (em_top k T (ev_var rfl)) (ea_cons (em_count k T (ev_var rfl)) ea_nil)) (by show 2 ≤ 1000; decide) q
end SS

set_option Elab.async false
set_option linter.all false
set_option maxRecDepth 100000
set_option maxHeartbeats 4000000
namespace SS
open PySem L2
local macro_rules | `(tactic| walk_at "q") => `(tactic| ((try dsimp only); refine s_seq ?_))

theorem pigeon : ∀ (L : Nat) (l : List Nat), l.Nodup → (∀ x ∈ l, 1 ≤ x ∧ x ≤ L) → l.length ≤ L
  | 0, [], _, _ => Nat.le_refl _
  | 0, a :: l, _, h => by
    have := h a List.mem_cons_self
    omega
  | L + 1, l, nd, h => by
    have ih := pigeon L (l.erase (L + 1)) (nd.erase _) fun x hx => by
      have h1 := h x (List.mem_of_mem_erase hx)
      have h2 : x ≠ L + 1 := ((nd.mem_erase_iff).mp hx).1
      omega
    rw [List.length_erase] at ih
    split at ih <;> omega
theorem pileFrom_ok (links : List Nat) (hl : ∀ c ∈ links, c ≤ links.length) : ∀ (n : Nat) (found : List Nat) (cell : Nat), (∀ x ∈ found, 1 ≤ x ∧ x ≤ links.length) → cell ≤ links.length → ∀ x ∈ M.pileFrom links n found cell, 1 ≤ x ∧ x ≤ links.length
  | 0, found, cell, hf, _ => hf
  | n + 1, found, cell, hf, hc => by
    unfold M.pileFrom
    split
    · exact hf
    · rename_i h
      refine pileFrom_ok links hl n _ _ (fun x hx => ?_) ?_
      · rcases List.mem_append.mp hx with z | z
        · exact hf x z
        · have e : x = cell := by simpa using z
          rw [e]
          omega
      · rw [List.getD_eq_getElem?_getD]
        cases e : links[cell - 1]? with
        | none => exact Nat.zero_le _
        | some c => exact hl c (List.mem_of_getElem? e)
theorem pileFrom_len (links : List Nat) : ∀ (n : Nat) (found : List Nat) (cell : Nat), (M.pileFrom links n found cell).length ≤ found.length + n
  | 0, found, cell => Nat.le_refl _
  | n + 1, found, cell => by
    unfold M.pileFrom
    split
    · omega
    · have := pileFrom_len links n (found ++ [cell]) (links.getD (cell - 1) 0)
      rw [List.length_append] at this
      simp only [List.length_singleton] at this
      omega
theorem pile_len (m : M) (ok : PileOk m) : m.pile.length ≤ 1001 := by
  have := pileFrom_len m.links (m.links.length + 1) [] m.top
  have h1 := ok.ll
  have h2 := ok.wl
  show (M.pileFrom _ _ _ _).length ≤ _
  simp only [List.length_nil] at this
  omega
theorem pure_M_pile {Z : Cs} (k : ZOk Z) (vs : List V) (H : Hp) (Q : VK) (E : XK) (h : sp_M_pile Z vs H Q E) : t_M_pile Z { nx := fun _ H' => Q .non H', rt := Q } (start ["self", "found", "cell"] vs) H := by
  obtain ⟨A, m, rfl, T, ok, q⟩ := h
  unfold t_M_pile
  walk_at "q"
  refine e_lst ea_nil (by show 0 ≤ 1000; decide) fun l hl => ?_
  have T1 := T.new (o := .lst []) hl
  show ({ nx := _, rt := Q : Ends }).nx _ _
  walk_at "q"
  refine s_asg (em_top k T1 (ev_var rfl)) ?_
  walk_at "q"
  refine s_while (fun s' H' => ∃ (found : List Nat) (cell : Nat), s' = [some (.ref A.p), some (.ref l), some (.int cell)] ∧ Same H H' ∧ H' l = some (.lst (found.map natV)) ∧ found.Nodup ∧ (∀ x ∈ found, 1 ≤ x ∧ x ≤ m.links.length) ∧ cell ≤ m.links.length ∧
      found.length ≤ m.links.length ∧ M.pileFrom m.links (m.links.length + 1 - found.length) found cell = m.pile)
    (fun s' H' => match H' l with | some (.lst xs) => m.links.length + 1 - xs.length | _ => 0)
    ⟨[], m.top, rfl, Same.new hl, upd_same, .nil, (fun x hx => by cases hx), ok.top, Nat.zero_le _, rfl⟩ ?_
  rintro s' H' ⟨found, cell, rfl, c, hL, nd, hf, hc, hlen, hp⟩
  have T' := T.same c
  have test : EvT (tAnd (tTest (tOp rNe (tVar 2) (tC (.int 0)))) (tTest (tOp (rIn Z.K true) (tVar 2) (tVar 1)))) [some (.ref A.p), some (.ref l), some (.int cell)] H' (!decide (cell = 0 ∨ cell ∈ found)) := by
    refine et_is (et_and (et_test (ev_ne (ev_var rfl) ev_c rfl)) fun _ => et_test (ev_inL (ev_var rfl) (ev_var rfl) (SqL.of hL) rfl (flat_nat _))) ?_
    rw [dec_nat0, if_pos rfl, inV_nat, Bool.decide_or, Bool.not_or, List.contains_eq_mem]
  have hn : m.links.length + 1 - found.length = (m.links.length - found.length) + 1 := by omega
  by_cases e : cell = 0 ∨ cell ∈ found
  · left
    refine ⟨et_is test (by rw [decide_eq_true e]; rfl), ?_⟩
    rw [hn, M.pileFrom, if_pos e] at hp
    dsimp only
    exact s_ret (ev_var rfl) (q l H' hl c (by rw [← hp]; exact hL))
  · right
    refine ⟨et_is test (by rw [decide_eq_false e]; rfl), ?_⟩
    rw [hn, M.pileFrom, if_neg e] at hp
    walk_at "q"
    refine s_app (ev_var rfl) hL (ev_var rfl) (by rw [List.length_map]; exact Nat.lt_of_le_of_lt (Nat.le_trans hlen (by rw [ok.ll]; exact ok.wl)) (by decide)) ?_
    have e2 : List.map natV found ++ [V.int cell] = (found ++ [cell]).map natV := by rw [List.map_append]; rfl
    rw [e2]
    have c2 : Same H (upd H' l (.lst ((found ++ [cell]).map natV))) := same_newer c hl
    have T2 := T.same c2
    have h1 : 1 ≤ cell ∧ cell ≤ m.links.length := by omega
    have nd2 : (found ++ [cell]).Nodup := by
      rw [List.nodup_append]
      refine ⟨nd, by simp, fun a ha b hb => ?_⟩
      have : b = cell := by simpa using hb
      rw [this]
      exact fun z => e (.inr (z ▸ ha))
    have hf2 : ∀ x ∈ found ++ [cell], 1 ≤ x ∧ x ≤ m.links.length := fun x hx => by
      rcases List.mem_append.mp hx with z | z
      · exact hf x z
      · have e : x = cell := by simpa using z
        rw [e]
        exact h1
    have hlen2 := pigeon _ _ nd2 hf2
    have hlk : (m.links.map natV)[cell - 1]? = some (natV (m.links.getD (cell - 1) 0)) := by
      rw [List.getElem?_map, List.getD_eq_getElem?_getD, List.getElem?_eq_getElem (by omega)]
      rfl
    dsimp only
    refine s_asg (ev_ixL (em_links k T2 (ev_var rfl)) (ev_sub (ev_var rfl) ev_c) (SqL.of T2.linksL) (atI_pred h1.1 hlk)) ?_
    refine ⟨⟨found ++ [cell], m.links.getD (cell - 1) 0, rfl, c2, upd_same, nd2, hf2, ?_, hlen2, ?_⟩, ?_⟩
    · rw [List.getD_eq_getElem?_getD, List.getElem?_eq_getElem (by omega)]
      exact ok.links _ (List.getElem_mem _)
    · rw [List.length_append]
      show M.pileFrom _ (m.links.length + 1 - (found.length + 1)) _ _ = _
      rw [show m.links.length + 1 - (found.length + 1) = m.links.length - found.length by omega]
      exact hp
    · rw [hL]
      simp only [upd_same, List.length_map, List.length_append, List.length_singleton]
      have : (found ++ [cell]).length = found.length + 1 := by simp
      omega
theorem pure_M_pile_values {Z : Cs} (k : ZOk Z) (vs : List V) (H : Hp) (Q : VK) (E : XK) (h : sp_M_pile_values Z vs H Q E) : t_M_pile_values Z { nx := fun _ H' => Q .non H', rt := Q } (start ["self", "cell"] vs) H := by
  obtain ⟨A, m, rfl, T, ok, q⟩ := h
  unfold t_M_pile_values
  show tMeth _ _ _ _ _ _ _ _ _ _
  refine s_meth (ev_var rfl) T.obj (mf_no _ _ _ (by simp)) ea_nil ⟨A, m, rfl, T, ok, fun l H1 hl c hL => ?_⟩
  refine e_lcL (tl := tC (.ref l)) (H := H1) ev_c (SqL.of hL) (fun D i H' => Same H1 H' ∧ H' D = some (.lst (((m.pile.take i).map fun c => m.worths.getD (c - 1) 0).map V.int)))
    (fun D hD => ⟨Same.new hD, upd_same⟩) (fun D i H' _ _ p => SqL.of (p.1 _ _ hL)) (fun D i x H' hx hD p => ?_) (fun D H' hD p => ?_)
  · obtain ⟨cell, hc, rfl⟩ := map_get hx
    have T' := (T.same c).same p.1
    have hb := pileFrom_ok m.links ok.links (m.links.length + 1) [] m.top (fun x hx => by cases hx) ok.top cell (List.mem_of_getElem? hc)
    have hw : (m.worths.map V.int)[cell - 1]? = some (.int (m.worths.getD (cell - 1) 0)) := by
      have := ok.ll
      rw [List.getElem?_map, List.getD_eq_getElem?_getD, List.getElem?_eq_getElem (by omega)]
      rfl
    refine ⟨rfl, et_yes _ (iteT (ev_ixL (em_worths k T' (ev_var rfl)) (ev_sub (ev_var rfl) ev_c) (SqL.of T'.worthsL) (atI_pred hb.1 hw) _ ⟨_, p.2, ?_, same_newer p.1 hD, ?_⟩))⟩
    · rw [List.length_map, List.length_map, List.length_take]
      have hi := (List.getElem?_eq_some_iff.mp hc).1
      have hpl : m.pile.length ≤ 1001 := pile_len m ok
      exact Nat.lt_of_le_of_lt (Nat.le_trans (Nat.min_le_right _ _) hpl) (by decide)
    · rw [upd_same, take_snoc hc, List.map_append, List.map_append]
      rfl
  · have c2 : Same H H' := fun b o e => p.1 b o (c b o e)
    refine q D H' ?_ c2 ?_
    · cases e : H D with
      | none => rfl
      | some o =>
        have := c D o e
        rw [hD] at this
        cases this
    · rw [p.2, List.length_map, List.take_length]
      rfl
end SS

set_option Elab.async false
set_option linter.all false
set_option maxRecDepth 100000
set_option maxHeartbeats 4000000
namespace SS
open PySem L2
local macro_rules | `(tactic| walk_at "q") => `(tactic| ((try dsimp only); refine s_seq ?_))

/-! ### data of ints -/
theorem shaped_ints (l : List Int) : SeqAt.shaped (.list (l.map PyData.int)) = true := by
  have h1 : ∀ l : List Int, PyData.canLayAll0 (l.map PyData.int) = true := by
    intro l
    induction l with
    | nil => rfl
    | cons a l ih => simp [PyData.canLayAll0, PyData.canLay0, ih]
  have h2 : ∀ l : List Int, PyData.depthAll (l.map PyData.int) = 0 := by
    intro l
    induction l with
    | nil => rfl
    | cons a l ih => simp [PyData.depthAll, PyData.depth, ih]
  simp [SeqAt.shaped, PyData.canLay0, PyData.depth, h1, h2]
theorem dp_ints {K : PySem.W.Frag} {H : Hp} : ∀ l : List Int, DpAll K H (l.map V.int) (l.map PyData.int)
  | [] => .nil
  | a :: l => .cons (.int a) (dp_ints l)
theorem filter_snoc {p : Nat → Bool} (i : Nat) : (List.range (i + 1)).filter p = (List.range i).filter p ++ (if p i then [i] else []) := by
  rw [List.range_succ, List.filter_append]
  congr 1
  cases h : p i <;> simp [h]
theorem pure_M_is_done {Z : Cs} (k : ZOk Z) (vs : List V) (H : Hp) (Q : VK) (E : XK) (h : sp_M_is_done Z vs H Q E) : t_M_is_done Z { nx := fun _ H' => Q .non H', rt := Q } (start ["self", "hand"] vs) H := by
  obtain ⟨A, m, rfl, T, hn, q⟩ := h
  unfold t_M_is_done
  refine s_ret_of (t_op_of ?_)
  refine e_lcR (n := m.hands.length) (ev_is (ev_lenL (em_hands k T (ev_var rfl)) (SqL.of T.handsLL)) (by rw [List.length_map, T.hs])) (by omega)
    (fun D i H' => Same H H' ∧ H' D = some (.lst (((List.range i).filter fun h => !m.rests h).map natV))) (fun D hD => ⟨Same.new hD, upd_same⟩) (fun D i H' hi hD p => ?_) (fun D H' hD p => ?_)
  · obtain ⟨a, ha⟩ := T.hand_of hi
    have T' := T.same p.1
    refine ⟨rfl, ?_⟩
    show tMeth _ _ _ _ _ _ _ _ _ _
    refine s_meth (ev_var rfl) T'.obj (mf_no _ _ _ (by simp)) (ea_cons (ev_var rfl) ea_nil) ⟨A, m, i, a, rfl, T', ha, ⟨_, rfl, ?_⟩⟩
    cases e : m.rests i with
    | true =>
      refine iteF ⟨p.1, ?_⟩
      rw [p.2, filter_snoc, e]
      simp
    | false =>
      refine iteT (ev_var rfl _ ⟨_, p.2, ?_, same_newer p.1 hD, ?_⟩)
      · rw [List.length_map]
        refine Nat.lt_of_le_of_lt (List.length_filter_le _ _) ?_
        rw [List.length_range]
        exact Nat.lt_of_lt_of_le hi (Nat.le_trans hn (by decide))
      · rw [upd_same, filter_snoc, e]
        simp
  · refine e_lst ea_nil (by show 0 ≤ 1000; decide) fun l hl => ?_
    have hD2 : upd H' l (.lst []) D = some (.lst (((List.range m.hands.length).filter fun h => !m.rests h).map natV)) := Same.new hl _ _ p.2
    refine ⟨.list ((((List.range m.hands.length).filter fun h => !m.rests h).map Int.ofNat).map PyData.int), .list [], .lst (SqL.of (by rw [hD2, natV_int])) (dp_ints _), .lst (SqL.of upd_same) .nil, shaped_ints _, rfl, ?_⟩
    have e : PyData.eqv (.list ((((List.range m.hands.length).filter fun h => !m.rests h).map Int.ofNat).map PyData.int)) (.list []) = m.isDone := by
      unfold M.isDone
      have e1 : ∀ xs : List Int, PyData.eqv (.list (xs.map PyData.int)) (.list []) = xs.isEmpty := by
        intro xs
        cases xs <;> rfl
      rw [e1]
      by_cases h : (List.range m.hands.length).all m.rests = true
      · rw [h, List.isEmpty_iff, List.map_eq_nil_iff, List.filter_eq_nil_iff]
        intro a ha
        rw [List.all_eq_true] at h
        simp [h a ha]
      · have h' : (List.range m.hands.length).all m.rests = false := by simpa using h
        rw [h']
        cases e : (List.map Int.ofNat ((List.range m.hands.length).filter fun h => !m.rests h)).isEmpty with
        | false => rfl
        | true =>
          rw [List.isEmpty_iff, List.map_eq_nil_iff, List.filter_eq_nil_iff] at e
          exact absurd (List.all_eq_true.mpr fun a ha => by simpa using e a ha) h
    rw [e]
    exact q _ (same_newer p.1 (by
      cases z : H l with
      | none => rfl
      | some o =>
        have := p.1 l o z
        rw [hl] at this
        cases this))

/-! ### what is refused: nothing here -/
theorem pure_need_values {Z : Cs} (k : ZOk Z) (vs : List V) (H : Hp) (Q : VK) (E : XK) (h : sp_need_values Z vs H Q E) : t_need_values Z { nx := fun _ H' => Q .non H', rt := Q } (start ["values", "at"] vs) H := by
  obtain ⟨a, ns, rfl, L, hn, hv, q⟩ := h
  unfold t_need_values
  walk_at "q"
  refine s_ifF (et_is (et_test (ev_gt (ev_lenL (ev_var rfl) L) ev_c)) (by rw [List.length_map]; exact decide_eq_false (by omega))) ?_
  dsimp only [tNext]
  refine s_forR (n := ns.length) (ev_is (ev_lenL (ev_var rfl) L) (by rw [List.length_map])) (by omega) (fun i s' H' => H' = H ∧ ∃ w, s' = [some (.ref a), w]) ⟨rfl, none, rfl⟩ ?_ ?_
  · rintro i s' H' hi ⟨rfl, w, rfl⟩
    obtain ⟨n, hn⟩ : ∃ n, ns[i]? = some n := ⟨_, List.getElem?_eq_getElem hi⟩
    obtain ⟨h1, h2⟩ := hv n (List.mem_of_getElem? hn)
    have hat : atI (ns.map V.int) (i : Int) = some (.int n) := atI_nat (by rw [List.getElem?_map, hn] <;> rfl)
    refine s_ifF (et_is (et_not (et_test (ev_leLe ev_c (ev_ixL (ev_var rfl) (ev_var rfl) L hat) ev_c))) ?_) ⟨rfl, _, rfl⟩
    rw [decide_eq_true h1, decide_eq_true h2]
    rfl
  · rintro s' H' ⟨rfl, w, rfl⟩
    exact q
theorem pure_is_deed {Z : Cs} (k : ZOk Z) (vs : List V) (H : Hp) (Q : VK) (E : XK) (h : sp_is_deed Z vs H Q E) : t_is_deed Z { nx := fun _ H' => Q .non H', rt := Q } (start ["deed"] vs) H := by
  obtain ⟨v, d, rfl, ⟨p, rfl, hq⟩, hv, q⟩ := h
  unfold t_is_deed
  walk_at "q"
  have n1 : decide (V.str "push" = V.str "pop") = false := by decide +kernel
  have n2 : decide (V.str "push" = V.str "push") = true := decide_eq_true rfl
  have n3 : decide (V.str "pop" = V.str "pop") = true := decide_eq_true rfl
  cases d with
  | pop =>
    refine s_ifF (et_is (et_test (ev_eq (ev_lenT (ev_var rfl) (SqT.of hq)) ev_c rfl)) rfl) ?_
    dsimp only [tNext]
    walk_at "q"
    refine s_ifT (et_is (et_test (ev_eq (ev_word rfl hq) ev_c rfl)) n3) ?_
    dsimp only
    exact s_ret (ev_is (ev_eq (ev_lenT (ev_var rfl) (SqT.of hq)) ev_c rfl) rfl) q
  | push x =>
    refine s_ifF (et_is (et_test (ev_eq (ev_lenT (ev_var rfl) (SqT.of hq)) ev_c rfl)) rfl) ?_
    dsimp only [tNext]
    walk_at "q"
    refine s_ifF (et_is (et_test (ev_eq (ev_word rfl hq) ev_c rfl)) n1) ?_
    dsimp only [tNext]
    refine s_ret (ev_is (ev_andV (ev_eq (ev_word rfl hq) ev_c rfl) fun _ => ev_andV (ev_eq (ev_lenT (ev_var rfl) (SqT.of hq)) ev_c rfl) fun _ => ev_leLe ev_c (ev_ixT (ev_var rfl) ev_c (SqT.of hq) (atI_nat (j := 1) rfl)) ev_c) ?_) q
    rw [n2, decide_eq_true hv.1, decide_eq_true hv.2]
    rfl
theorem pure_need_deeds {Z : Cs} (k : ZOk Z) (vs : List V) (H : Hp) (Q : VK) (E : XK) (h : sp_need_deeds Z vs H Q E) : t_need_deeds Z { nx := fun _ H' => Q .non H', rt := Q } (start ["deeds", "hand", "number"] vs) H := by
  obtain ⟨v, hh, ds, rfl, ⟨p, us, rfl, hp, hu⟩, hn, hv, q⟩ := h
  unfold t_need_deeds
  refine s_forR (n := ds.length) (ev_is (ev_lenL (ev_var rfl) (SqL.of hp)) (by rw [hu.length])) (by omega) (fun i s' H' => H' = H ∧ ∃ w, s' = [some (.ref p), some (.int hh), w]) ⟨rfl, none, rfl⟩ ?_ ?_
  · rintro i s' H' hi ⟨rfl, w, rfl⟩
    obtain ⟨d, hd⟩ : ∃ d, ds[i]? = some d := ⟨_, List.getElem?_eq_getElem hi⟩
    obtain ⟨u, hui, hdu⟩ := hu.get i hd
    refine s_if_of ?_
    show tCall _ _ _ _ _ _ _
    refine s_call (ea_cons (ev_ixL (ev_var rfl) (ev_var rfl) (SqL.of hp) (atI_nat hui)) ea_nil) ⟨u, d, rfl, hdu, hv d (List.mem_of_getElem? hd), ⟨_, rfl, ?_⟩⟩
    exact iteF ⟨rfl, _, rfl⟩
  · rintro s' H' ⟨rfl, w, rfl⟩
    exact q
theorem pure_need_programs {Z : Cs} (k : ZOk Z) (vs : List V) (H : Hp) (Q : VK) (E : XK) (h : sp_need_programs Z vs H Q E) : t_need_programs Z { nx := fun _ H' => Q .non H', rt := Q } (start ["programs", "hand"] vs) H := by
  obtain ⟨l, ps, rfl, ⟨us, L, hu⟩, ⟨h1, h2⟩, h4, hv, q⟩ := h
  unfold t_need_programs
  walk_at "q"
  have hl := hu.length
  refine s_ifF (et_is (et_not (et_test (ev_leLe ev_c (ev_lenL (ev_var rfl) L) ev_c))) ?_) ?_
  · rw [hl, decide_eq_true (show (1 : Int) ≤ (ps.length : Int) by omega), decide_eq_true (show (ps.length : Int) ≤ 3 by omega)]
    rfl
  dsimp only [tNext]
  refine s_forR (n := ps.length) (ev_is (ev_lenL (ev_var rfl) L) (by rw [hl])) (by omega) (fun i s' H' => H' = H ∧ ∃ w, s' = [some (.ref l), w]) ⟨rfl, none, rfl⟩ ?_ ?_
  · rintro i s' H' hi ⟨rfl, w, rfl⟩
    obtain ⟨d, hd⟩ : ∃ d, ps[i]? = some d := ⟨_, List.getElem?_eq_getElem hi⟩
    obtain ⟨u, hui, p, vs', rfl, hp, hdu⟩ := hu.get i hd
    have m := List.mem_of_getElem? hd
    walk_at "q"
    refine s_ifF (et_is (et_test (ev_gt (ev_lenL (ev_ixL (ev_var rfl) (ev_var rfl) L (atI_nat hui)) (SqL.of hp)) ev_c)) ?_) ?_
    · rw [hdu.length]
      have := h4 d m
      exact decide_eq_false (by omega)
    dsimp only [tNext]
    refine s_drop' (s_call (ea_cons (ev_ixL (ev_var rfl) (ev_var rfl) L (atI_nat hui)) (ea_cons (ev_var rfl) ea_nil)) ⟨_, i, d, rfl, ⟨p, vs', rfl, hp, hdu⟩, ?_, hv d m, ⟨rfl, _, rfl⟩⟩)
    have := h4 d m
    omega
  · rintro s' H' ⟨rfl, w, rfl⟩
    exact q
end SS

set_option Elab.async false
set_option linter.all false
set_option maxRecDepth 100000
set_option maxHeartbeats 4000000
namespace SS
open PySem L2
local macro_rules | `(tactic| walk_at "q") => `(tactic| ((try dsimp only); refine s_seq ?_))

theorem rising_get : ∀ {l : List Nat} {i a b : Nat}, rising l → l[i]? = some a → l[i + 1]? = some b → a < b
  | [], i, a, b, _, h, _ => by simp at h
  | [x], i, a, b, _, _, h => by simp at h
  | x :: y :: l, 0, a, b, hr, h1, h2 => by
    have e1 : x = a := Option.some.inj h1
    have e2 : y = b := Option.some.inj h2
    subst e1 e2
    exact hr.1
  | x :: y :: l, i + 1, a, b, hr, h1, h2 => rising_get (l := y :: l) (i := i) hr.2 (by simpa using h1) (by simpa using h2)
theorem natI (l : List Nat) : (l.map Int.ofNat).map V.int = l.map natV := (natV_int l).symm
def ruleD : Rule → PyData
  | .counts m => .tuple [.str "counts", .int m]
  | .marks hs => .tuple [.str "marks", .tuple ((hs.map Int.ofNat).map PyData.int)]
  | .keeps => .tuple [.str "keeps"]
theorem canLay_ints : ∀ l : List Int, PyData.canLayAll0 (l.map PyData.int) = true := by
  intro l
  induction l with
  | nil => rfl
  | cons a l ih => simp [PyData.canLayAll0, PyData.canLay0, ih]
theorem depth_ints : ∀ l : List Int, PyData.depthAll (l.map PyData.int) = 0 := by
  intro l
  induction l with
  | nil => rfl
  | cons a l ih => simp [PyData.depthAll, PyData.depth, ih]
theorem ruleD_shaped : ∀ r : Rule, SeqAt.shaped (ruleD r) = true
  | .counts m => by
    simp only [ruleD, SeqAt.shaped, PyData.canLay0, PyData.canLayAll0, PyData.depth, PyData.depthAll]
    decide +kernel
  | .keeps => by decide +kernel
  | .marks hs => by
    simp only [ruleD, SeqAt.shaped, PyData.canLay0, PyData.canLayAll0, PyData.depth, PyData.depthAll, canLay_ints, depth_ints]
    decide +kernel
theorem ruleDp {K : PySem.W.Frag} {H : Hp} {a : Addr} : ∀ {r : Rule}, RuleAt H a r → Dp K H (.ref a) (ruleD r)
  | .counts m, h => .tup (SqT.of h) (.cons (.str _) (.cons (.int _) .nil))
  | .keeps, h => .tup (SqT.of h) (.cons (.str _) .nil)
  | .marks hs, ⟨t, h1, h2⟩ => .tup (SqT.of h1) (.cons (.str _) (.cons (.tup (SqT.of h2) (by rw [natV_int]; exact dp_ints _)) .nil))
theorem ruleD_keeps (r : Rule) : PyData.eqv (ruleD r) (.tuple [.str "keeps"]) = decide (r = .keeps) := by
  cases r with
  | counts m =>
    have : PyData.eqv (ruleD (.counts m)) (.tuple [.str "keeps"]) = (PyData.eqv (.str "counts") (.str "keeps") && false) := rfl
    rw [this, Bool.and_false]
    rfl
  | marks hs =>
    have : PyData.eqv (ruleD (.marks hs)) (.tuple [.str "keeps"]) = (PyData.eqv (.str "marks") (.str "keeps") && false) := rfl
    rw [this, Bool.and_false]
    rfl
  | keeps => decide +kernel
theorem pure_need_rule {Z : Cs} (k : ZOk Z) (vs : List V) (H : Hp) (Q : VK) (E : XK) (h : sp_need_rule Z vs H Q E) : t_need_rule Z { nx := fun _ H' => Q .non H', rt := Q } (start ["rule", "many", "at"] vs) H := by
  obtain ⟨a, r, many, rfl, R, ok, q⟩ := h
  unfold t_need_rule
  walk_at "q"
  refine s_if_of (t_test_of (t_op_of (ev_var rfl _ (e_tup (ea_cons ev_c ea_nil) (by show 1 ≤ 1000; decide) fun p hp => ?_))))
  have c1 : Same H (upd H p (.tup [.str "keeps"])) := Same.new hp
  have R1 := R.mono (H' := upd H p (.tup [.str "keeps"])) fun b xs e => c1 _ _ e
  refine ⟨ruleD r, .tuple [.str "keeps"], ruleDp R1, .tup (SqT.of upd_same) (.cons (.str _) .nil), ruleD_shaped r, (by decide +kernel), ⟨_, rfl, ?_⟩⟩
  rw [ruleD_keeps]
  by_cases ek : r = .keeps
  · rw [decide_eq_true ek]
    refine iteT ?_
    exact q _ c1
  rw [decide_eq_false ek]
  refine iteF ?_
  dsimp only [tNext]
  obtain ⟨xs, hR, hat⟩ := ruleW _ a r R1
  have hlen : xs.length = 2 := by
    cases r with
    | counts m =>
      have := hR.symm.trans R1
      cases this
      rfl
    | marks hs =>
      obtain ⟨t, h1, _⟩ := R1
      have := hR.symm.trans h1
      cases this
      rfl
    | keeps => exact absurd rfl ek
  walk_at "q"
  refine s_if_of ?_
  refine (et_test (ev_is (ev_ne (ev_lenT (ev_var rfl) (SqT.of hR)) ev_c rfl) (by rw [hlen] <;> rfl))) _ ?_
  refine iteF ?_
  refine t_test_of (t_op_of ?_)
  refine (ev_ixT (ev_var rfl) ev_c (SqT.of hR) hat) _ (e_tup (ea_cons ev_c (ea_cons ev_c ea_nil)) (by show 2 ≤ 1000; decide) fun p2 hp2 => ?_)
  have c2 := same_newer (D := p2) (o := .tup [.str "counts", .str "marks"]) c1 (by
    cases z : H p2 with
    | none => rfl
    | some o =>
      have := c1 p2 o z
      rw [hp2] at this
      cases this)
  have c12 : Same (upd H p (.tup [.str "keeps"])) (upd (upd H p (.tup [.str "keeps"])) p2 (.tup [.str "counts", .str "marks"])) := Same.new hp2
  have R2 := R1.mono fun b xs e => c12 _ _ e
  refine ⟨p2, _, rfl, .inr (SqT.of upd_same), rfl, rfl, ⟨_, rfl, ?_⟩⟩
  have hin : inV (V.str r.word) [.str "counts", .str "marks"] = true := by
    cases r with
    | counts m => exact (by decide +kernel : inV (V.str "counts") [.str "counts", .str "marks"] = true)
    | marks hs => exact (by decide +kernel : inV (V.str "marks") [.str "counts", .str "marks"] = true)
    | keeps => exact absurd rfl ek
  rw [if_pos rfl, hin]
  refine iteF ?_
  dsimp only [tNext]
  cases r with
  | keeps => exact absurd rfl ek
  | counts m =>
    have R3 := R2
    simp only [RuleAt] at R3
    refine s_ifT (et_is (et_test (ev_eq (ev_ixT (ev_var rfl) ev_c (SqT.of R3) (atI_nat (j := 0) rfl)) ev_c rfl)) (decide_eq_true rfl)) ?_
    refine s_ifF (et_is (et_not (et_test (ev_leLe ev_c (ev_ixT (ev_var rfl) ev_c (SqT.of R3) (atI_nat (j := 1) rfl)) ev_c))) ?_) (q _ c2)
    obtain ⟨h1, h2⟩ := ok
    rw [decide_eq_true (show (1 : Int) ≤ (m : Int) by omega), decide_eq_true (show (m : Int) ≤ 15 by omega)]
    rfl
  | marks hs =>
    obtain ⟨t, R3, R4⟩ := R2
    obtain ⟨h1, h2, h3⟩ := ok
    refine s_ifF (et_is (et_test (ev_eq (ev_ixT (ev_var rfl) ev_c (SqT.of R3) (atI_nat (j := 0) rfl)) ev_c rfl)) (by decide +kernel)) ?_
    have e1 : ∀ {s : L2.St}, s[0]? = some (some (.ref a)) → Ev (tOp (rIxT Z.K) (tVar 0) (tC (.int 1))) s (upd (upd H p (.tup [.str "keeps"])) p2 (.tup [.str "counts", .str "marks"])) (.ref t) := fun h => ev_ixT (ev_var h) ev_c (SqT.of R3) (atI_nat (j := 1) rfl)
    refine s_forR (n := hs.length) (ev_is (ev_lenT (e1 rfl) (SqT.of R4)) (by rw [List.length_map])) (by omega)
      (fun i s' H' => H' = (upd (upd H p (.tup [.str "keeps"])) p2 (.tup [.str "counts", .str "marks"])) ∧ ∃ w, s' = [some (.ref a), some (.int many), w]) ⟨rfl, none, rfl⟩ ?_ ?_
    · rintro i s' H' hi ⟨rfl, w, rfl⟩
      obtain ⟨x, hx⟩ : ∃ x, hs[i]? = some x := ⟨_, List.getElem?_eq_getElem hi⟩
      have hxm := h1 x (List.mem_of_getElem? hx)
      have hv : (hs.map natV)[i]? = some (natV x) := by rw [List.getElem?_map, hx] <;> rfl
      refine s_ifF (et_is (et_or (et_not (et_test (ev_leLt ev_c (ev_ixT (e1 rfl) (ev_var rfl) (SqT.of R4) (atI_nat hv)) (ev_var rfl)))) fun _ =>
        (show EvT (tAnd _ _) _ _ false from ?_)) ?_) ⟨rfl, _, rfl⟩
      · by_cases e0 : i = 0
        · subst e0
          exact et_is (et_and (b := true) (et_test (ev_gt (ev_var rfl) ev_c)) fun e => absurd e (by decide)) rfl
        · obtain ⟨y, hy⟩ : ∃ y, hs[i - 1]? = some y := ⟨_, List.getElem?_eq_getElem (by omega)⟩
          have hlt : y < x := rising_get h2 hy (by rw [show i - 1 + 1 = i by omega]; exact hx)
          have hvy : (hs.map natV)[i - 1]? = some (natV y) := by rw [List.getElem?_map, hy] <;> rfl
          refine et_is (et_and (et_test (ev_gt (ev_var rfl) ev_c)) fun _ => et_test (ev_le (ev_ixT (e1 rfl) (ev_var rfl) (SqT.of R4) (atI_nat hv)) (ev_ixT (e1 rfl) (ev_sub (ev_var rfl) ev_c) (SqT.of R4) (atI_pred (by omega) hvy)))) ?_
          rw [decide_eq_false (show ¬ (x : Int) ≤ (y : Int) by omega), Bool.and_false]
      · rw [decide_eq_true (show (0 : Int) ≤ (x : Int) by omega), decide_eq_true (show (x : Int) < (many : Int) by omega)]
        rfl
    · rintro s' H' ⟨rfl, w, rfl⟩
      exact q _ c2
end SS

set_option Elab.async false
set_option linter.all false
set_option maxRecDepth 100000
set_option maxHeartbeats 4000000
namespace SS
open PySem L2
local macro_rules | `(tactic| walk_at "q") => `(tactic| ((try dsimp only); refine s_seq ?_))

/-! ### the attributes as they come -/
theorem hp1 (v : V) : putF ("program" : Str) v ([] : List (Str × V)) = ([("program", v)] : List (Str × V)) := by kernel_rfl
theorem hp2 (a v : V) : putF ("at" : Str) v ([("program", a)] : List (Str × V)) = ([("program", a), ("at", v)] : List (Str × V)) := by kernel_rfl
theorem hp3 (a b v : V) : putF ("cell" : Str) v ([("program", a), ("at", b)] : List (Str × V)) = ([("program", a), ("at", b), ("cell", v)] : List (Str × V)) := by kernel_rfl
theorem hp4 (a b c v : V) : putF ("seen" : Str) v ([("program", a), ("at", b), ("cell", c)] : List (Str × V)) = ([("program", a), ("at", b), ("cell", c), ("seen", v)] : List (Str × V)) := by kernel_rfl
theorem hp5 (a b c d v : V) : putF ("follow" : Str) v ([("program", a), ("at", b), ("cell", c), ("seen", d)] : List (Str × V)) = ([("program", a), ("at", b), ("cell", c), ("seen", d), ("follow", v)] : List (Str × V)) := by kernel_rfl
theorem hp6 (a b c d e v : V) : putF ("mark" : Str) v ([("program", a), ("at", b), ("cell", c), ("seen", d), ("follow", e)] : List (Str × V)) = ([("program", a), ("at", b), ("cell", c), ("seen", d), ("follow", e), ("mark", v)] : List (Str × V)) := by kernel_rfl
theorem hp7 (a b c d e f v : V) : putF ("looked" : Str) v ([("program", a), ("at", b), ("cell", c), ("seen", d), ("follow", e), ("mark", f)] : List (Str × V)) = ([("program", a), ("at", b), ("cell", c), ("seen", d), ("follow", e), ("mark", f), ("looked", v)] : List (Str × V)) := by kernel_rfl
theorem hp8 (a b c d e f g v : V) : putF ("said" : Str) v ([("program", a), ("at", b), ("cell", c), ("seen", d), ("follow", e), ("mark", f), ("looked", g)] : List (Str × V)) = ([("program", a), ("at", b), ("cell", c), ("seen", d), ("follow", e), ("mark", f), ("looked", g), ("said", v)] : List (Str × V)) := by kernel_rfl
theorem mp1 (v : V) : putF ("rule" : Str) v ([] : List (Str × V)) = ([("rule", v)] : List (Str × V)) := by kernel_rfl
theorem mp2 (a v : V) : putF ("worths" : Str) v ([("rule", a)] : List (Str × V)) = ([("rule", a), ("worths", v)] : List (Str × V)) := by kernel_rfl
theorem mp3 (a b v : V) : putF ("links" : Str) v ([("rule", a), ("worths", b)] : List (Str × V)) = ([("rule", a), ("worths", b), ("links", v)] : List (Str × V)) := by kernel_rfl
theorem mp4 (a b c v : V) : putF ("top" : Str) v ([("rule", a), ("worths", b), ("links", c)] : List (Str × V)) = ([("rule", a), ("worths", b), ("links", c), ("top", v)] : List (Str × V)) := by kernel_rfl
theorem mp5 (a b c d v : V) : putF ("count" : Str) v ([("rule", a), ("worths", b), ("links", c), ("top", d)] : List (Str × V)) = ([("rule", a), ("worths", b), ("links", c), ("top", d), ("count", v)] : List (Str × V)) := by kernel_rfl
theorem mp6 (a b c d e v : V) : putF ("freed" : Str) v ([("rule", a), ("worths", b), ("links", c), ("top", d), ("count", e)] : List (Str × V)) = ([("rule", a), ("worths", b), ("links", c), ("top", d), ("count", e), ("freed", v)] : List (Str × V)) := by kernel_rfl
theorem mp7 (a b c d e f v : V) : putF ("hands" : Str) v ([("rule", a), ("worths", b), ("links", c), ("top", d), ("count", e), ("freed", f)] : List (Str × V)) = ([("rule", a), ("worths", b), ("links", c), ("top", d), ("count", e), ("freed", f), ("hands", v)] : List (Str × V)) := by kernel_rfl
theorem mp8 (a b c d e f g v : V) : putF ("ends" : Str) v ([("rule", a), ("worths", b), ("links", c), ("top", d), ("count", e), ("freed", f), ("hands", g)] : List (Str × V)) = ([("rule", a), ("worths", b), ("links", c), ("top", d), ("count", e), ("freed", f), ("hands", g), ("ends", v)] : List (Str × V)) := by kernel_rfl
theorem mp9 (a b c d e f g h v : V) : putF ("strayed" : Str) v ([("rule", a), ("worths", b), ("links", c), ("top", d), ("count", e), ("freed", f), ("hands", g), ("ends", h)] : List (Str × V)) = ([("rule", a), ("worths", b), ("links", c), ("top", d), ("count", e), ("freed", f), ("hands", g), ("ends", h), ("strayed", v)] : List (Str × V)) := by kernel_rfl

/-- all but p stands -/
abbrev But (p : Addr) (H H' : Hp) : Prop := ∀ b o, H b = some o → b ≠ p → H' b = some o
theorem But.put {p : Addr} {H H' : Hp} (c : But p H H') {o : HO} : But p H (upd H' p o) := fun b u e n => by rw [upd_ne n]; exact c b u e n
theorem But.new {p q : Addr} {H H' : Hp} (c : But p H H') {o : HO} (h : H' q = none) : But p H (upd H' q o) := fun b u e n => by
  rw [upd_ne (ne_of_none (c b u e n) h)]
  exact c b u e n
theorem But.same {p : Addr} {H H' H2 : Hp} (c : But p H H') (d : Same H' H2) : But p H H2 := fun b u e n => d _ _ (c b u e n)
theorem But.free {p q : Addr} {H H' : Hp} (c : But p H H') {o : HO} (hp : H' p = some o) (h : H' q = none) : H q = none := by
  cases z : H q with
  | none => rfl
  | some u =>
    have hq : q ≠ p := fun e => by rw [e, hp] at h; cases h
    have := c q u z hq
    rw [h] at this
    cases this
/-- a field of a young object is stored -/
theorem s_young {Z : Cs} {s : L2.St} {H : Hp} {D : Ends} {ta te : TE} {C p dx : Addr} {fs fs' : List (Str × V)} {f : Str} {v : V} (ha : Ev ta s H (.ref p)) (h : H p = some (.ins C dx fs)) (c : Cls Z.K C) (n : NoAttr Z.K C f) (hl : fs.length < 1000) (e : putF f v fs = fs')
    (hv : Ev te s H v) (k : D.nx s (upd H p (.ins C dx fs'))) : sFld Z.K ta te f D s H := s_fld hv ha h c n hl (by rw [e]; exact k)
theorem pure_H_init {Z : Cs} (k : ZOk Z) (vs : List V) (H : Hp) (Q : VK) (E : XK) (h : sp_H_init Z vs H Q E) : t_H_init Z { nx := fun _ H' => Q .non H', rt := Q } (start ["self", "program"] vs) H := by
  obtain ⟨p, dx, l, us, ds, rfl, hp, hL, hd, q⟩ := h
  unfold t_H_init
  walk_at "q"
  refine e_listOf (ev_var rfl) (.inl (SqL.of hL)) fun l1 hl1 => ?_
  have p1 := Same.new (o := .lst us) hl1 _ _ hp
  show sFld Z.K (tVar 0) (tC (.ref l1)) "program" _ _ _
  refine s_young (Z := Z) (ev_var rfl) p1 k.clH k.h_program (by decide) (hp1 _) ev_c ?_
  walk_at "q"
  refine s_young (Z := Z) (ev_var rfl) upd_same k.clH k.h_at (by simp) (hp2 _ _) ev_c ?_
  walk_at "q"
  refine s_young (Z := Z) (ev_var rfl) upd_same k.clH k.h_cell (by simp) (hp3 _ _ _) ev_c ?_
  walk_at "q"
  refine s_young (Z := Z) (ev_var rfl) upd_same k.clH k.h_seen (by simp) (hp4 _ _ _ _) ev_c ?_
  walk_at "q"
  refine s_young (Z := Z) (ev_var rfl) upd_same k.clH k.h_follow (by simp) (hp5 _ _ _ _ _) ev_c ?_
  walk_at "q"
  refine s_young (Z := Z) (ev_var rfl) upd_same k.clH k.h_mark (by simp) (hp6 _ _ _ _ _ _) ev_c ?_
  walk_at "q"
  refine s_young (Z := Z) (ev_var rfl) upd_same k.clH k.h_looked (by simp) (hp7 _ _ _ _ _ _ _) ev_c ?_
  rw [upd_upd, upd_upd, upd_upd, upd_upd, upd_upd, upd_upd]
  dsimp only
  refine e_lst ea_nil (by show 0 ≤ 1000; decide) fun l2 hl2 => ?_
  have c1 : But p H (upd H l1 (.lst us)) := But.new (fun _ _ e _ => e) hl1
  have c2 := c1.put (o := .ins Z.H dx ([("program", V.ref l1), ("at", V.int 0), ("cell", V.int 0), ("seen", V.non), ("follow", V.non), ("mark", V.int 0), ("looked", V.bl false)] : List (Str × V)))
  have c3 := c2.new (o := .lst []) hl2
  have npl1 : p ≠ l1 := ne_of_none hp hl1
  have e1 : upd (upd H l1 (.lst us)) p (.ins Z.H dx ([("program", V.ref l1), ("at", V.int 0), ("cell", V.int 0), ("seen", V.non), ("follow", V.non), ("mark", V.int 0), ("looked", V.bl false)] : List (Str × V))) l1 = some (.lst us) := by
    rw [upd_ne npl1.symm]
    exact upd_same
  have nl12 : l1 ≠ l2 := ne_of_none e1 hl2
  have npl2 : p ≠ l2 := ne_of_none upd_same hl2
  show sFld Z.K (tVar 0) (tC (.ref l2)) "said" _ _ _
  refine s_young (Z := Z) (ev_var rfl) (by rw [upd_ne npl2]; exact upd_same) k.clH k.h_said (by simp) (hp8 _ _ _ _ _ _ _ _) ev_c ?_
  refine q ⟨p, dx, l1, l2⟩ _ rfl hl1 (c2.free (H' := upd (upd H l1 (.lst us)) p (.ins Z.H dx _)) upd_same hl2) nl12 upd_same ?_ ?_ (c3.put)
  · rw [upd_ne npl1.symm, upd_ne nl12]
    exact e1
  · rw [upd_ne npl2.symm]
    exact upd_same
end SS

set_option Elab.async false
set_option linter.all false
set_option maxRecDepth 100000
set_option maxHeartbeats 4000000
namespace SS
open PySem L2
local macro_rules | `(tactic| walk_at "q") => `(tactic| ((try dsimp only); refine s_seq ?_))

def HA.ad (a : HA) : List Addr := [a.h, a.said, a.prog]
def MA.six (A : MA) : List Addr := [A.p, A.worths, A.links, A.freed, A.handsL, A.ends]
def Role.ix : Role → Nat
  | .m => 0 | .worths => 1 | .links => 2 | .freed => 3 | .handsL => 4 | .ends => 5
  | .hand _ => 0 | .said _ => 1 | .prog _ => 2
def Role.of : Role → Option Nat
  | .hand i => some i | .said i => some i | .prog i => some i
  | _ => none
theorem Role.ext {r r' : Role} (h1 : r.of = r'.of) (h2 : r.ix = r'.ix) : r = r' := by
  cases r <;> cases r' <;> simp [Role.of, Role.ix] at h1 h2 <;> first | rfl | (rw [h1])
theorem MA.at_six {A : MA} {r : Role} {a : Addr} (h : A.at r = some a) (o : r.of = none) : A.six[r.ix]? = some a := by
  cases r <;> first | exact h | (simp [Role.of] at o)
theorem MA.at_hand {A : MA} {r : Role} {a : Addr} {i : Nat} (h : A.at r = some a) (o : r.of = some i) : ∃ b, A.hs[i]? = some b ∧ b.ad[r.ix]? = some a := by
  cases r with
  | hand j =>
    have e : j = i := Option.some.inj o
    subst e
    simp only [MA.at, Option.map_eq_some_iff] at h
    obtain ⟨b, h1, h2⟩ := h
    exact ⟨b, h1, congrArg some h2⟩
  | said j =>
    have e : j = i := Option.some.inj o
    subst e
    simp only [MA.at, Option.map_eq_some_iff] at h
    obtain ⟨b, h1, h2⟩ := h
    exact ⟨b, h1, congrArg some h2⟩
  | prog j =>
    have e : j = i := Option.some.inj o
    subst e
    simp only [MA.at, Option.map_eq_some_iff] at h
    obtain ⟨b, h1, h2⟩ := h
    exact ⟨b, h1, congrArg some h2⟩
  | _ => cases o
theorem nodup_ix {l : List Addr} (nd : l.Nodup) {i j : Nat} {a : Addr} (h1 : l[i]? = some a) (h2 : l[j]? = some a) : i = j := nd_ix nd h1 h2
theorem sep_of {A : MA} (nd : A.six.Nodup) (fx : ∀ (i : Nat) (a : HA), A.hs[i]? = some a → ∀ x ∈ a.ad, x ∉ A.six) (wi : ∀ (i : Nat) (a : HA), A.hs[i]? = some a → a.ad.Nodup)
    (hh : ∀ (i j : Nat) (a b : HA) (x : Addr), A.hs[i]? = some a → A.hs[j]? = some b → x ∈ a.ad → x ∈ b.ad → i = j) : ∀ r r' a, A.at r = some a → A.at r' = some a → r = r' := by
  intro r r' a h h'
  cases e : r.of with
  | none =>
    cases e' : r'.of with
    | none => exact Role.ext (e.trans e'.symm) (nodup_ix nd (MA.at_six h e) (MA.at_six h' e'))
    | some i =>
      obtain ⟨b, hb, hx⟩ := MA.at_hand h' e'
      exact absurd (List.mem_of_getElem? (MA.at_six h e)) (fx i b hb a (List.mem_of_getElem? hx))
  | some i =>
    obtain ⟨b, hb, hx⟩ := MA.at_hand h e
    cases e' : r'.of with
    | none => exact absurd (List.mem_of_getElem? (MA.at_six h' e')) (fx i b hb a (List.mem_of_getElem? hx))
    | some j =>
      obtain ⟨b', hb', hx'⟩ := MA.at_hand h' e'
      have ij := hh i j b b' a hb hb' (List.mem_of_getElem? hx) (List.mem_of_getElem? hx')
      subst ij
      rw [hb] at hb'
      cases hb'
      exact Role.ext (e.trans e'.symm) (nodup_ix (wi i b hb) hx hx')
theorem seq_but {K : PySem.W.Frag} {H H' : Hp} {p C dx : Addr} {fs : List (Str × V)} {a : Addr} {xs : List V} (c : But p H H') (hp : H p = some (.ins C dx fs)) (h : SqL K H a xs) : SqL K H' a xs := by
  rcases h with (h | ⟨o, h⟩) | h
  · exact .inl (.inl (c _ _ h fun e => by rw [e, hp] at h; cases h))
  · exact .inl (.inr ⟨o, c _ _ h fun e => by rw [e, hp] at h; cases h⟩)
  · exact .inr h
theorem free_of {H H' : Hp} (c : Same H H') {x : Addr} (h : H' x = none) : H x = none := by
  cases z : H x with
  | none => rfl
  | some o =>
    have := c x o z
    rw [h] at this
    cases this
/-- the hands that stand so far: all new since Hc, apart from each other and from D -/
structure Young (Z : Cs) (Hc H : Hp) (D : Addr) (as : List HA) (ps : List (List Deed)) : Prop where
  same : Same Hc H
  list : H D = some (.lst (as.map fun a => V.ref a.h))
  hand : ∀ (j : Nat) (a : HA), as[j]? = some a → HandO Z H a .non {}
  said : ∀ (j : Nat) (a : HA), as[j]? = some a → H a.said = some (.lst [])
  prog : ∀ (j : Nat) (a : HA) (ds : List Deed), as[j]? = some a → ps[j]? = some ds → ∃ us, H a.prog = some (.lst us) ∧ All2 (DeedAt H) us ds
  there : ∀ (j : Nat) (a : HA), as[j]? = some a → ∀ x ∈ a.ad, H x ≠ none ∧ Hc x = none ∧ x ≠ D
  wi : ∀ (j : Nat) (a : HA), as[j]? = some a → a.ad.Nodup
  hh : ∀ (i j : Nat) (a b : HA) (x : Addr), as[i]? = some a → as[j]? = some b → x ∈ a.ad → x ∈ b.ad → i = j
theorem snoc_get {α : Type} {l : List α} {x : α} {i : Nat} {y : α} (h : (l ++ [x])[i]? = some y) : l[i]? = some y ∨ (i = l.length ∧ y = x) := by
  rw [List.getElem?_append] at h
  split at h
  · exact .inl h
  · rename_i hi
    have : i - l.length < 1 := by
      have := (List.getElem?_eq_some_iff.mp h).1
      simpa using this
    have e : i = l.length := by omega
    rw [e, Nat.sub_self] at h
    exact .inr ⟨e, (Option.some.inj h).symm⟩
theorem Young.more {Z : Cs} {Hc H : Hp} {D : Addr} {as : List HA} {ps : List (List Deed)} (y : Young Z Hc H D as ps) (hDc : Hc D = none) {a : HA} {H1 H2 : Hp} {us : List V} {ds : List Deed} (hd : ps[as.length]? = some ds)
    (s1 : Same H H1) (hx : H a.h = none) (hx1 : ∃ o, H1 a.h = some o) (hp : H1 a.prog = none) (hs : H1 a.said = none) (nps : a.prog ≠ a.said) (O : HandO Z H2 a .non {}) (P : H2 a.prog = some (.lst us)) (S : H2 a.said = some (.lst [])) (hu : All2 (DeedAt H) us ds) (s2 : Same H H2) :
    Young Z Hc (upd H2 D (.lst ((as.map fun a => V.ref a.h) ++ [.ref a.h]))) D (as ++ [a]) ps := by
  have sc : Same Hc H2 := fun b o e => s2 b o (y.same b o e)
  have s3 : Same Hc (upd H2 D (.lst ((as.map fun a => V.ref a.h) ++ [.ref a.h]))) := same_newer sc hDc
  have D1 := s1 _ _ y.list
  have D2 := s2 _ _ y.list
  have nD : ∀ x, x ∈ a.ad → x ≠ D := fun x hx' => by
    simp only [HA.ad, List.mem_cons, List.not_mem_nil, or_false] at hx'
    rcases hx' with rfl | rfl | rfl
    · exact fun e => by rw [e, y.list] at hx; cases hx
    · exact fun e => by rw [e, D1] at hs; cases hs
    · exact fun e => by rw [e, D1] at hp; cases hp
  have hn : ∀ x, x ∈ a.ad → H x = none := fun x hx' => by
    simp only [HA.ad, List.mem_cons, List.not_mem_nil, or_false] at hx'
    rcases hx' with rfl | rfl | rfl
    · exact hx
    · exact free_of s1 hs
    · exact free_of s1 hp
  have tup : ∀ b xs, H b = some (.tup xs) → upd H2 D (.lst ((as.map fun a => V.ref a.h) ++ [.ref a.h])) b = some (.tup xs) := fun b xs e => by
    rw [upd_ne (fun z => by rw [z, y.list] at e; cases e)]
    exact s2 _ _ e
  refine ⟨s3, by rw [upd_same, List.map_append] <;> rfl, fun j b hb => ?_, fun j b hb => ?_, fun j b ds' hb hd' => ?_, fun j b hb x hx' => ?_, fun j b hb => ?_, fun i j b c x hb hc h1 h2 => ?_⟩
  · rcases snoc_get hb with hb | ⟨_, rfl⟩
    · show upd _ _ _ _ = _
      rw [upd_ne (y.there j b hb b.h (by simp [HA.ad])).2.2]
      exact s2 _ _ (y.hand j b hb)
    · show upd _ _ _ _ = _
      rw [upd_ne (nD b.h (by simp [HA.ad]))]
      exact O
  · rcases snoc_get hb with hb | ⟨_, rfl⟩
    · rw [upd_ne (y.there j b hb b.said (by simp [HA.ad])).2.2]
      exact s2 _ _ (y.said j b hb)
    · rw [upd_ne (nD b.said (by simp [HA.ad]))]
      exact S
  · rcases snoc_get hb with hb | ⟨e, rfl⟩
    · obtain ⟨us', h1, h2⟩ := y.prog j b ds' hb hd'
      refine ⟨us', ?_, h2.mono fun _ _ => DeedAt.mono tup⟩
      rw [upd_ne (y.there j b hb b.prog (by simp [HA.ad])).2.2]
      exact s2 _ _ h1
    · subst e
      rw [hd] at hd'
      cases hd'
      refine ⟨us, ?_, hu.mono fun _ _ => DeedAt.mono tup⟩
      rw [upd_ne (nD b.prog (by simp [HA.ad]))]
      exact P
  · rcases snoc_get hb with hb | ⟨_, rfl⟩
    · obtain ⟨h1, h2, h3⟩ := y.there j b hb x hx'
      refine ⟨?_, h2, h3⟩
      rw [upd_ne h3]
      cases z : H x with
      | none => exact absurd z h1
      | some o => rw [s2 _ _ z]; exact fun e => by cases e
    · refine ⟨?_, free_of y.same (hn x hx'), nD x hx'⟩
      rw [upd_ne (nD x hx')]
      simp only [HA.ad, List.mem_cons, List.not_mem_nil, or_false] at hx'
      rcases hx' with rfl | rfl | rfl
      · rw [show H2 b.h = _ from O]; exact fun e => by cases e
      · rw [S]; exact fun e => by cases e
      · rw [P]; exact fun e => by cases e
  · rcases snoc_get hb with hb | ⟨_, rfl⟩
    · exact y.wi j b hb
    · obtain ⟨o, ho⟩ := hx1
      have n1 : b.h ≠ b.said := fun e => by rw [e, hs] at ho; cases ho
      have n2 : b.h ≠ b.prog := fun e => by rw [e, hp] at ho; cases ho
      simp [HA.ad, n1, n2, nps.symm]
  · rcases snoc_get hb with hb' | ⟨e1, eb⟩
    · rcases snoc_get hc with hc' | ⟨e2, ec⟩
      · exact y.hh i j b c x hb' hc' h1 h2
      · exact absurd (hn x (by rw [← ec]; exact h2)) (y.there i b hb' x h1).1
    · rcases snoc_get hc with hc' | ⟨e2, ec⟩
      · exact absurd (hn x (by rw [← eb]; exact h1)) (y.there j c hc' x h2).1
      · rw [e1, e2]
end SS

set_option Elab.async false
set_option linter.all false
set_option maxRecDepth 100000
set_option maxHeartbeats 4000000
namespace SS
open PySem L2
local macro_rules | `(tactic| walk_at "q") => `(tactic| ((try dsimp only); refine s_seq ?_))

theorem rgV_nat (n : Nat) : rgV 0 (n : Int) = (List.range n).map natV := by
  unfold rgV
  rw [show ((n : Int) - 0).toNat = n by omega]
  exact List.map_congr_left fun i _ => by rw [Int.zero_add]
theorem ProgsAt.but {K : PySem.W.Frag} {H H' : Hp} {p C dx l : Addr} {fs : List (Str × V)} {ps : List (List Deed)} (c : But p H H') (hp : H p = some (.ins C dx fs)) (h : ProgsAt K H l ps) : ProgsAt K H' l ps := by
  obtain ⟨us, L, hu⟩ := h
  have np : ∀ b o, H b = some o → (∀ fs, o ≠ .ins C dx fs) → b ≠ p := fun b o e n z => by
    rw [z, hp] at e
    cases e
    exact n _ rfl
  have tup : Tups H H' := fun b xs e => c _ _ e (np _ _ e fun fs => by intro z; cases z)
  refine ⟨us, seq_but c hp L, hu.mono fun v ds => ?_⟩
  rintro ⟨q, vs, rfl, h1, h2⟩
  exact ⟨q, vs, rfl, c _ _ h1 (np _ _ h1 fun fs => by intro z; cases z), h2.mono fun _ _ => DeedAt.mono tup⟩
theorem pure_M_init {Z : Cs} (k : ZOk Z) (vs : List V) (H : Hp) (Q : VK) (E : XK) (h : sp_M_init Z vs H Q E) : t_M_init Z { nx := fun _ H' => Q .non H', rt := Q } (start ["self", "values", "programs", "rule", "program"] vs) H := by
  obtain ⟨p, dx, lv, lp, lr, values, ps, r, rfl, hp, hv, hps, hr, ok, q⟩ := h
  unfold t_M_init
  walk_at "q"
  refine s_drop' (s_call (ea_cons (ev_var rfl) ea_nil) ⟨lv, values, rfl, hv, ok.vlen, ok.vals, ?_⟩)
  walk_at "q"
  refine s_drop' (s_call (ea_cons (ev_var rfl) ea_nil) ⟨lp, ps, rfl, hps, ok.plen, ok.dlen, ok.deeds, ?_⟩)
  walk_at "q"
  obtain ⟨pus, hpl, hpu⟩ := id hps
  refine s_drop' (s_call (ea_cons (ev_var rfl) (ea_cons (ev_is (ev_lenL (ev_var rfl) hpl) (by rw [hpu.length])) ea_nil)) ⟨lr, r, ps.length, rfl, hr, ok.rule, fun H1 c1 => ?_⟩)
  have b1 : But p H H1 := fun b o e _ => c1 b o e
  have p1 := c1 _ _ hp
  walk_at "q"
  refine s_young (Z := Z) (ev_var rfl) p1 k.clM k.m_rule (by decide) (mp1 _) (ev_var rfl) ?_
  have b2 := b1.put (o := .ins Z.M dx ([("rule", V.ref lr)] : List (Str × V)))
  -- worths
  walk_at "q"
  refine e_listOf (ev_var rfl) (.inl (seq_but b2 hp hv)) fun lw hlw => ?_
  show sFld Z.K (tVar 0) (tC (.ref lw)) "worths" _ _ _
  have b3 := b2.new (o := .lst (values.map V.int)) hlw
  have p3 := Same.new (o := .lst (values.map V.int)) hlw _ _ (upd_same (H := H1) (a := p) (o := .ins Z.M dx ([("rule", V.ref lr)] : List (Str × V))))
  have nw : p ≠ lw := ne_of_none upd_same hlw
  have fw : H lw = none := b2.free upd_same hlw
  refine s_young (Z := Z) (ev_var rfl) p3 k.clM k.m_worths (by simp) (mp2 _ _) ev_c ?_
  generalize h4 : upd (upd (upd H1 p (HO.ins Z.M dx ([("rule", V.ref lr)] : List (Str × V)))) lw (HO.lst (List.map V.int values))) p (HO.ins Z.M dx ([("rule", V.ref lr), ("worths", V.ref lw)] : List (Str × V))) = H4
  have b4 : But p H H4 := by rw [← h4]; exact b3.put
  have p4 : H4 p = some (.ins Z.M dx ([("rule", V.ref lr), ("worths", V.ref lw)] : List (Str × V))) := by rw [← h4]; exact upd_same
  have w4 : H4 lw = some (.lst (values.map V.int)) := by rw [← h4, upd_ne nw.symm]; exact upd_same
  -- links
  walk_at "q"
  refine ev_lenL (ev_var rfl) (seq_but b4 hp hv) _ ⟨_, rfl, ?_⟩
  rw [List.length_map]
  refine ⟨.of_le (by omega) (by have := ok.vlen; omega) (by omega) (by omega), fun ll hll => ?_⟩
  rw [rgV_nat]
  show sFld Z.K (tVar 0) (tC (.ref ll)) "links" _ _ _
  have b5 := b4.new (o := .lst ((List.range values.length).map natV)) hll
  have p5 := Same.new (o := .lst ((List.range values.length).map natV)) hll _ _ p4
  have w5 := Same.new (o := .lst ((List.range values.length).map natV)) hll _ _ w4
  have nl : p ≠ ll := ne_of_none p4 hll
  have nlw : lw ≠ ll := ne_of_none w4 hll
  have fl : H ll = none := b4.free p4 hll
  refine s_young (Z := Z) (ev_var rfl) p5 k.clM k.m_links (by simp) (mp3 _ _ _) ev_c ?_
  generalize h6 : upd (upd H4 ll (HO.lst ((List.range values.length).map natV))) p (HO.ins Z.M dx ([("rule", V.ref lr), ("worths", V.ref lw), ("links", V.ref ll)] : List (Str × V))) = H6
  have b6 : But p H H6 := by rw [← h6]; exact b5.put
  have p6 : H6 p = some (.ins Z.M dx ([("rule", V.ref lr), ("worths", V.ref lw), ("links", V.ref ll)] : List (Str × V))) := by rw [← h6]; exact upd_same
  have w6 : H6 lw = some (.lst (values.map V.int)) := by rw [← h6, upd_ne nw.symm]; exact w5
  have l6 : H6 ll = some (.lst ((List.range values.length).map natV)) := by rw [← h6, upd_ne nl.symm]; exact upd_same
  -- top, count
  walk_at "q"
  refine s_young (Z := Z) (ev_var rfl) p6 k.clM k.m_top (by simp) (mp4 _ _ _ _) (ev_is (ev_lenL (ev_var rfl) (seq_but b6 hp hv)) (by rw [List.length_map])) ?_
  walk_at "q"
  refine s_young (Z := Z) (ev_var rfl) upd_same k.clM k.m_count (by simp) (mp5 _ _ _ _ _) ev_c ?_
  rw [upd_upd]
  generalize h7 : upd H6 p (HO.ins Z.M dx ([("rule", V.ref lr), ("worths", V.ref lw), ("links", V.ref ll), ("top", V.int values.length), ("count", V.int 0)] : List (Str × V))) = H7
  have b7 : But p H H7 := by rw [← h7]; exact b6.put
  have p7 : H7 p = some (.ins Z.M dx ([("rule", V.ref lr), ("worths", V.ref lw), ("links", V.ref ll), ("top", V.int values.length), ("count", V.int 0)] : List (Str × V))) := by rw [← h7]; exact upd_same
  have w7 : H7 lw = some (.lst (values.map V.int)) := by rw [← h7, upd_ne nw.symm]; exact w6
  have l7 : H7 ll = some (.lst ((List.range values.length).map natV)) := by rw [← h7, upd_ne nl.symm]; exact l6
  -- freed
  walk_at "q"
  refine e_lst ea_nil (by show 0 ≤ 1000; decide) fun lf hlf => ?_
  show sFld Z.K (tVar 0) (tC (.ref lf)) "freed" _ _ _
  have b8 := b7.new (o := .lst []) hlf
  have p8 := Same.new (o := .lst []) hlf _ _ p7
  have w8 := Same.new (o := .lst []) hlf _ _ w7
  have l8 := Same.new (o := .lst []) hlf _ _ l7
  have nf : p ≠ lf := ne_of_none p7 hlf
  have nfw : lw ≠ lf := ne_of_none w7 hlf
  have nfl : ll ≠ lf := ne_of_none l7 hlf
  have ff : H lf = none := b7.free p7 hlf
  refine s_young (Z := Z) (ev_var rfl) p8 k.clM k.m_freed (by simp) (mp6 _ _ _ _ _ _) ev_c ?_
  generalize h9 : upd (upd H7 lf (HO.lst [])) p (HO.ins Z.M dx ([("rule", V.ref lr), ("worths", V.ref lw), ("links", V.ref ll), ("top", V.int values.length), ("count", V.int 0), ("freed", V.ref lf)] : List (Str × V))) = H9
  have b9 : But p H H9 := by rw [← h9]; exact b8.put
  have p9 : H9 p = some (.ins Z.M dx ([("rule", V.ref lr), ("worths", V.ref lw), ("links", V.ref ll), ("top", V.int values.length), ("count", V.int 0), ("freed", V.ref lf)] : List (Str × V))) := by rw [← h9]; exact upd_same
  have w9 : H9 lw = some (.lst (values.map V.int)) := by rw [← h9, upd_ne nw.symm]; exact w8
  have l9 : H9 ll = some (.lst ((List.range values.length).map natV)) := by rw [← h9, upd_ne nl.symm]; exact l8
  have f9 : H9 lf = some (.lst []) := by rw [← h9, upd_ne nf.symm]; exact upd_same
  -- hands
  have hps9 := hps.but b9 hp
  obtain ⟨us, L9, hu9⟩ := hps9
  walk_at "q"
  refine e_lcL (ev_var rfl) L9 (fun D i H' => ∃ as : List HA, as.length = i ∧ Young Z H9 H' D as ps) (fun D hD => ⟨[], rfl, Same.new hD, upd_same, by simp, by simp, by simp, by simp, by simp, by simp⟩) (fun D i H' _ _ p => ?_) (fun D i x H' hx hD hy => ?_) (fun D H' hD hy => ?_)
  · obtain ⟨as, _, y⟩ := p
    exact Same.seq y.same L9
  · obtain ⟨as, rfl, y⟩ := hy
    have hi : as.length < ps.length := by rw [← hu9.length]; exact (List.getElem?_eq_some_iff.mp hx).1
    obtain ⟨ds, hds⟩ : ∃ ds, ps[as.length]? = some ds := ⟨_, List.getElem?_eq_getElem hi⟩
    obtain ⟨x', hx', qq, vs', rfl, hq, hd⟩ := hu9.get as.length hds
    rw [hx] at hx'
    cases hx'
    have hq' := y.same _ _ hq
    refine ⟨rfl, et_yes _ (iteT ?_)⟩
    refine (ea_cons (ev_var rfl) ea_nil) _ ?_
    intro x dx' hx0 hdx0 hne
    have s1 : Same H' (upd (upd H' dx' (.own x)) x (.ins Z.H dx' [])) := fun b o e => by
      rw [upd_ne (ne_of_none e hx0), upd_ne (ne_of_none e hdx0)]
      exact e
    refine ⟨x, dx', qq, vs', ds, rfl, upd_same, s1 _ _ hq', ?_, ?_⟩
    · exact hd.mono fun _ _ => DeedAt.mono fun b xs e => s1 _ _ (y.same _ _ e)
    · intro a H2 ea hpn hsn nps O P S bt
      refine ⟨rfl, ?_⟩
      have s2 : Same H' H2 := Same.made hx0 hdx0 bt
      refine ⟨_, s2 _ _ y.list, ?_, as ++ [a], by simp, ?_⟩
      · rw [List.length_map]
        have := ok.plen.2
        exact Nat.lt_of_lt_of_le hi (Nat.le_trans this (by decide))
      · rw [← ea]
        exact y.more hD hds s1 (by rw [ea]; exact hx0) ⟨_, by rw [ea]; exact upd_same⟩ hpn hsn nps O P S (hd.mono fun _ _ => DeedAt.mono fun b xs e => y.same _ _ e) s2
  · obtain ⟨as, hlen, y⟩ := hy
    rw [hu9.length] at hlen
    show sFld Z.K (tVar 0) (tC (.ref D)) "hands" _ _ _
    have bA : But p H H' := b9.same y.same
    have pA := y.same _ _ p9
    have nD : p ≠ D := ne_of_none p9 hD
    have nDw : lw ≠ D := ne_of_none w9 hD
    have nDl : ll ≠ D := ne_of_none l9 hD
    have nDf : lf ≠ D := ne_of_none f9 hD
    have fD : H D = none := b9.free p9 hD
    refine s_young (Z := Z) (ev_var rfl) pA k.clM k.m_hands (by simp) (mp7 _ _ _ _ _ _ _) ev_c ?_
    generalize hB : upd H' p (HO.ins Z.M dx ([("rule", V.ref lr), ("worths", V.ref lw), ("links", V.ref ll), ("top", V.int values.length), ("count", V.int 0), ("freed", V.ref lf), ("hands", V.ref D)] : List (Str × V))) = HB
    have bB : But p H HB := by rw [← hB]; exact bA.put
    have pB : HB p = some (.ins Z.M dx ([("rule", V.ref lr), ("worths", V.ref lw), ("links", V.ref ll), ("top", V.int values.length), ("count", V.int 0), ("freed", V.ref lf), ("hands", V.ref D)] : List (Str × V))) := by rw [← hB]; exact upd_same
    have kB : ∀ b o, H' b = some o → b ≠ p → HB b = some o := fun b o e n => by rw [← hB, upd_ne n]; exact e
    walk_at "q"
    refine e_lst ea_nil (by show 0 ≤ 1000; decide) fun le hle => ?_
    show sFld Z.K (tVar 0) (tC (.ref le)) "ends" _ _ _
    have ne : p ≠ le := ne_of_none pB hle
    have fe : H le = none := bB.free pB hle
    have pC := Same.new (o := .lst []) hle _ _ pB
    have kC : ∀ b o, H' b = some o → b ≠ p → upd HB le (.lst []) b = some o := fun b o e n => Same.new hle _ _ (kB b o e n)
    have nB : ∀ b o, H' b = some o → b ≠ p → b ≠ le := fun b o e n => ne_of_none (kB b o e n) hle
    refine s_young (Z := Z) (ev_var rfl) pC k.clM k.m_ends (by simp) (mp8 _ _ _ _ _ _ _ _) ev_c ?_
    refine s_young (Z := Z) (ev_var rfl) upd_same k.clM k.m_strayed (by simp) (mp9 _ _ _ _ _ _ _ _ _) ev_c ?_
    rw [upd_upd]
    have kD : ∀ b o, H' b = some o → b ≠ p → upd (upd HB le (.lst [])) p (.ins Z.M dx ([("rule", V.ref lr), ("worths", V.ref lw), ("links", V.ref ll), ("top", V.int values.length), ("count", V.int 0), ("freed", V.ref lf), ("hands", V.ref D), ("ends", V.ref le), ("strayed", V.bl false)] : List (Str × V))) b = some o := fun b o e n => by
      rw [upd_ne n]
      exact kC b o e n
    have npa : ∀ (j : Nat) (a : HA), as[j]? = some a → ∀ x ∈ a.ad, x ≠ p := fun j a ha x hx e => by
      have := (y.there j a ha x hx).2.1
      rw [e, p9] at this
      cases this
    let A : MA := ⟨p, dx, lr, lw, ll, lf, D, le, as⟩
    have hw' := y.same _ _ w9
    have hl' := y.same _ _ l9
    have hf' := y.same _ _ f9
    have tup : Tups H' _ := fun b xs e => kD b _ e fun z => by rw [z, pA] at e; cases e
    have tupH : Tups H _ := fun b xs e => tup b xs (bA b _ e fun z => by rw [z, hp] at e; cases e)
    have hdM : ∀ i, (M.begin_ values ps r).hd i = {} := fun i => by
      unfold M.hd M.begin_
      rw [List.getD_eq_getElem?_getD, List.getElem?_map]
      cases ps[i]? <;> rfl
    refine q A _ rfl ?_ ⟨?_, hr.mono tupH, ?_, ?_, ?_⟩ ?_
    · rintro a ⟨ro, ho⟩ nap
      have six : a ∈ A.six → H a = none := fun h => by
        simp only [MA.six, List.mem_cons, List.not_mem_nil, or_false] at h
        rcases h with h | h | h | h | h | h
        · exact absurd h nap
        · rw [h]; exact fw
        · rw [h]; exact fl
        · rw [h]; exact ff
        · rw [h]; exact fD
        · rw [h]; exact fe
      cases e : ro.of with
      | none => exact six (List.mem_of_getElem? (MA.at_six ho e))
      | some i =>
        obtain ⟨b, hb, hx⟩ := MA.at_hand ho e
        obtain ⟨h1, h2, h3⟩ := y.there i b hb a (List.mem_of_getElem? hx)
        exact b9.free p9 h2
    · intro ro a ho
      cases ro with
      | m =>
        cases ho
        exact ⟨_, upd_same, rfl⟩
      | worths =>
        cases ho
        exact ⟨_, kD _ _ hw' nw.symm, rfl⟩
      | links =>
        cases ho
        exact ⟨_, kD _ _ hl' nl.symm, rfl⟩
      | freed =>
        cases ho
        exact ⟨_, kD _ _ hf' nf.symm, rfl⟩
      | handsL =>
        cases ho
        exact ⟨_, kD _ _ y.list nD.symm, rfl⟩
      | ends =>
        cases ho
        refine ⟨.lst [], ?_, [], rfl, .nil⟩
        rw [upd_ne ne.symm]
        exact upd_same
      | hand i =>
        obtain ⟨b, hb, hx⟩ := MA.at_hand (i := i) ho rfl
        have e : b.h = a := Option.some.inj hx
        subst e
        exact ⟨_, kD _ _ (y.hand i b hb) (npa i b hb _ (by simp [HA.ad])), b, .non, hb, by rw [hdM], by rw [hdM]; rfl⟩
      | said i =>
        obtain ⟨b, hb, hx⟩ := MA.at_hand (i := i) ho rfl
        have e : b.said = a := Option.some.inj hx
        subst e
        refine ⟨_, kD _ _ (y.said i b hb) (npa i b hb _ (by simp [HA.ad])), ?_⟩
        show _ = _
        rw [hdM]
        rfl
      | prog i =>
        obtain ⟨b, hb, hx⟩ := MA.at_hand (i := i) ho rfl
        have e : b.prog = a := Option.some.inj hx
        subst e
        have hi : i < ps.length := by
          rw [← hlen]
          exact (List.getElem?_eq_some_iff.mp hb).1
        have hds : ps[i]? = some (ps.getD i []) := by
          rw [List.getD_eq_getElem?_getD, List.getElem?_eq_getElem hi]
          rfl
        obtain ⟨us', h1, h2⟩ := y.prog i b _ hb hds
        exact ⟨_, kD _ _ h1 (npa i b hb _ (by simp [HA.ad])), us', rfl, h2.mono fun _ _ => DeedAt.mono tup⟩
    · show as.length = (ps.map _).length
      rw [List.length_map, hlen]
    · show ps.length = (ps.map _).length
      rw [List.length_map]
    · refine sep_of ?_ ?_ y.wi y.hh
      · have n1 := nB _ _ hw' nw.symm
        have n2 := nB _ _ hl' nl.symm
        have n3 := nB _ _ hf' nf.symm
        have n4 := nB _ _ y.list nD.symm
        simp [MA.six, A, nw, nl, nf, nD, ne, nlw, nfw, nDw, nfl, nDl, nDf, n1, n2, n3, n4]
      · intro i a ha x hx hs
        obtain ⟨h1, h2, h3⟩ := y.there i a ha x hx
        have n1 := npa i a ha x hx
        simp only [MA.six, List.mem_cons, List.not_mem_nil, or_false] at hs
        rcases hs with h | h | h | h | h | h
        · exact n1 h
        · rw [h] at h2; exact absurd (w9.symm.trans h2) (by intro z; cases z)
        · rw [h] at h2; exact absurd (l9.symm.trans h2) (by intro z; cases z)
        · rw [h] at h2; exact absurd (f9.symm.trans h2) (by intro z; cases z)
        · exact h3 h
        · cases z : H' x with
          | none => exact h1 z
          | some o => exact nB x o z n1 h
    · intro b o e n
      exact kD b o (bA b o e n) n
end SS

set_option Elab.async false
set_option linter.all false
set_option maxRecDepth 100000
set_option maxHeartbeats 4000000
namespace SS
open PySem L2
local macro_rules | `(tactic| walk_at "q") => `(tactic| ((try dsimp only); refine s_seq ?_))

def sp_serial (Z : Cs) : Sp := fun vs H Q _ => ∃ (lv ld : Addr) (values : List Int) (us : List V) (ds : List Deed), vs = [.ref lv, .ref ld] ∧ SqL Z.K H lv (values.map V.int) ∧ values.length ≤ 6 ∧ (∀ v ∈ values, okVal v) ∧ H ld = some (.lst us) ∧ All2 (DeedAt H) us ds ∧ ds.length ≤ 1000 ∧ (∀ d ∈ ds, okDeed d) ∧
  ∀ (t la ln : Addr) H', Same H H' → H t = none → H la = none → H ln = none → la ≠ ln → H' t = some (.tup [.ref la, .ref ln]) → H' la = some (.lst ((serial values ds).1.map ansV)) → H' ln = some (.lst ((serial values ds).2.map V.int)) → Q (.ref t) H'
def sp_played (Z : Cs) : Sp := fun vs H Q _ => ∃ (lv lp lr lw : Addr) (values : List Int) (ps : List (List Deed)) (r : Rule) (w : List Nat), vs = [.ref lv, .ref lp, .ref lr, .ref lw] ∧ SqL Z.K H lv (values.map V.int) ∧ ProgsAt Z.K H lp ps ∧ RuleAt H lr r ∧ okIn values ps r ∧
  SqL Z.K H lw (w.map natV) ∧ (∀ h ∈ w, h < ps.length) ∧ w.length ≤ 100000 ∧ ∀ l us H', H l = none → Same H H' → H' l = some (.lst us) → All2 (TellAt H') us ((M.begin_ values ps r).tells w) → Q (.ref l) H'
/-- what whole tells: new lists, all apart -/
def WholeAt (H H' : Hp) (v : V) (m : M) : Prop := ∃ (t la lo lv : Addr) (as : List Addr) (us : List V), v = .ref t ∧ H' t = some (.tup [.ref la, .ref lo, .ref lv, .bl m.strayed]) ∧ H' la = some (.lst (as.map V.ref)) ∧ All2 (fun (a : Addr) (x : Hd) => H' a = some (.lst (x.said.map ansV))) as m.hands ∧
  H' lo = some (.lst us) ∧ All2 (PairAt H') us m.ends ∧ H' lv = some (.lst (m.pileValues.map V.int)) ∧ (la :: lo :: lv :: as).Nodup ∧ ∀ a ∈ la :: lo :: lv :: as, H a = none
def sp_whole (Z : Cs) : Sp := fun vs H Q _ => ∃ (lv lp lr lw : Addr) (values : List Int) (ps : List (List Deed)) (r : Rule) (w : List Nat), vs = [.ref lv, .ref lp, .ref lr, .ref lw] ∧ SqL Z.K H lv (values.map V.int) ∧ ProgsAt Z.K H lp ps ∧ RuleAt H lr r ∧ okIn values ps r ∧
  SqL Z.K H lw (w.map natV) ∧ (∀ h ∈ w, h < ps.length) ∧ ∀ v H', Same H H' → WholeAt H H' v (wholeM values ps r w) → Q v H'

/-! ### readings (printed) -/
/-- serial: 0 values, 1 deeds, 2 now, 3 answers, 4 deed -/
def t_serial (Z : Cs) : TS :=
  tSeq (tDrop (tCall (sp_need_values Z) [] E0 (tCons (tVar 0) tNil)))
    (tSeq (tDrop (tCall (sp_need_deeds Z) [] E0 (tCons (tVar 1) (tCons (tC (.int 0)) tNil))))
    (tSeq (tAsg (tCB (rListOf Z.K) (tCons (tVar 0) tNil)) (gName 2))
    (tSeq (tAsg (tLst tNil) (gName 3))
    (tSeq (tFor (iList Z.K (tVar 1)) (gName 4) ((tIfS (tTest (tOp rEq (tOp (rIxT Z.K) (tVar 4) (tC (.int 0))) (tC (.str "push")))) (tSeq (tDrop (tBM Z.K "list" rAppend (tVar 2) (tCons (tOp (rIxT Z.K) (tVar 4) (tC (.int 1))) tNil)))
    ((tDrop (tBM Z.K "list" rAppend (tVar 3) (tCons (tC (.str "done")) tNil))))) ((tIfS (tTest (tOp (rEqD Z.K) (tVar 2) (tLst tNil))) ((tDrop (tBM Z.K "list" rAppend (tVar 3) (tCons (tC .non) tNil)))) ((tDrop (tBM Z.K "list" rAppend (tVar 3) (tCons (tBM0 Z.K "list" rPop (tVar 2)) tNil)))))))))
    ((tRet (tTup (tCons (tVar 3) (tCons (tVar 2) tNil)))))))))
/-- played: 0 values, 1 programs, 2 rule, 3 weaving, 4 machine, 5 hand -/
def t_played (Z : Cs) : TS :=
  tSeq (tAsg (tMake Z.M (sp_M_init Z) [] E0 (tCons (tVar 0) (tCons (tVar 1) (tCons (tVar 2) tNil)))) (gName 4))
    ((tRet (tLc (iList Z.K (tVar 3)) (gName 5) tYes (tMeth Z.M "turn" (sp_M_turn Z) [] E0 (tVar 4) (tCons (tVar 5) tNil)) [5])))
/-- whole: 0 values, 1 programs, 2 rule, 3 weaving, 4 machine, 5 hand, 6 answers -/
def t_whole (Z : Cs) : TS :=
  tSeq (tAsg (tMake Z.M (sp_M_init Z) [] E0 (tCons (tVar 0) (tCons (tVar 1) (tCons (tVar 2) tNil)))) (gName 4))
    (tSeq (tFor (iList Z.K (tVar 3)) (gName 5) ((tDrop (tMeth Z.M "turn" (sp_M_turn Z) [] E0 (tVar 4) (tCons (tVar 5) tNil)))))
    (tSeq (tWhile (tNot (tB (tMeth Z.M "is_done" (sp_M_is_done Z) [] E0 (tVar 4) tNil))) ((tFor (iRng1 (tCons (tCB (rLen1 Z.K) (tCons (tVar 1) tNil)) tNil)) (gName 5) ((tDrop (tMeth Z.M "turn" (sp_M_turn Z) [] E0 (tVar 4) (tCons (tVar 5) tNil)))))))
    (tSeq (tAsg (tLc (iRng1 (tCons (tCB (rLen1 Z.K) (tCons (tVar 1) tNil)) tNil)) (gName 5) tYes (tMeth Z.M "answers" (sp_M_answers Z) [] E0 (tVar 4) (tCons (tVar 5) tNil)) [5]) (gName 6))
    ((tRet (tTup (tCons (tVar 6) (tCons (tMeth Z.M "order" (sp_M_order Z) [] E0 (tVar 4) tNil) (tCons (tMeth Z.M "pile_values" (sp_M_pile_values Z) [] E0 (tVar 4) tNil) (tCons (tMeth Z.M "is_stale" (sp_M_is_stale Z) [] E0 (tVar 4) tNil) tNil))))))))))
end SS

set_option Elab.async false
set_option linter.all false
set_option maxRecDepth 100000
set_option maxHeartbeats 4000000
namespace SS
open PySem L2
local macro_rules | `(tactic| walk_at "q") => `(tactic| ((try dsimp only); refine s_seq ?_))

theorem chg_fill' {H H' : Hp} {F : Addr → Prop} {D : Addr} {o : HO} (c : Chg F H H') (h : H D = none) : Chg F H (upd H' D o) :=
  ⟨fun b u e n => by rw [upd_ne (ne_of_none e h)]; exact c.keep b u e n, fun b u e s => by rw [upd_ne (ne_of_none e h)]; exact c.fix_ b u e s⟩
/-- a machine is made -/
theorem s_machine {Z : Cs} {s : L2.St} {H : Hp} {ar : TA} {lv lp lr : Addr} {values : List Int} {ps : List (List Deed)} {r : Rule} {Q : VK} (ha : EvA ar s H [.ref lv, .ref lp, .ref lr]) (hv : SqL Z.K H lv (values.map V.int)) (hp : ProgsAt Z.K H lp ps) (hr : RuleAt H lr r) (ok : okIn values ps r)
    (q : ∀ (A : MA) H', Same H H' → (∀ a, A.owns a → H a = none) → MachAt Z H' A (M.begin_ values ps r) → Q (.ref A.p) H') : tMake Z.M (sp_M_init Z) [] E0 ar s H Q := by
  refine t_make_of (ha _ fun x dx hx hdx ne => ?_)
  have s1 : Same H (upd (upd H dx (.own x)) x (.ins Z.M dx [])) := fun b o e => by
    rw [upd_ne (ne_of_none e hx), upd_ne (ne_of_none e hdx)]
    exact e
  have hp' : ProgsAt Z.K (upd (upd H dx (.own x)) x (.ins Z.M dx [])) lp ps := by
    obtain ⟨us, L, hu⟩ := hp
    refine ⟨us, Same.seq s1 L, hu.mono fun v ds => ?_⟩
    rintro ⟨q, vs, rfl, h1, h2⟩
    exact ⟨q, vs, rfl, s1 _ _ h1, h2.mono fun _ _ => DeedAt.mono fun b xs e => s1 _ _ e⟩
  refine ⟨x, dx, lv, lp, lr, values, ps, r, rfl, upd_same, Same.seq s1 hv, hp', hr.mono fun b xs e => s1 _ _ e, ok, fun A H' eA own T bt => ⟨rfl, ?_⟩⟩
  rw [← eA]
  refine q A H' (Same.made hx hdx bt) (fun a ho => ?_) T
  by_cases e : a = x
  · rw [e]; exact hx
  · exact free_of s1 (own a ho e)
/-- what a machine that is new has changed of what was -/
theorem same_own {F : Addr → Prop} {H H1 H2 : Hp} (c : Same H H1) (d : Chg F H1 H2) (n : ∀ a, F a → H a = none) : Same H H2 := fun b o e => d.keep b o (c b o e) fun z => by
  rw [n b z] at e
  cases e
theorem MachAt.own_ne {Z : Cs} {H : Hp} {A : MA} {m : M} (T : MachAt Z H A m) {a D : Addr} (h : A.owns a) (hD : H D = none) : a ≠ D := by
  obtain ⟨r, hr⟩ := h
  obtain ⟨o, ho, _⟩ := T.at_ r a hr
  exact ne_of_none ho hD
/-- a list of ours is filled -/
theorem MachAt.fill {Z : Cs} {H : Hp} {A : MA} {m : M} (T : MachAt Z H A m) {D : Addr} {xs : List V} {o : HO} (hD : H D = some (.lst xs)) (n : ∀ a, A.owns a → a ≠ D) : MachAt Z (upd H D o) A m :=
  T.chg (F := fun a => a = D) (Chg.put rfl fun u e => by rw [hD] at e; cases e; exact fun z => z) n
theorem s_turn {Z : Cs} {s : L2.St} {H : Hp} {A : MA} {m : M} {n : Nat} {te : TE} {h : Nat} {Q : VK} (h0 : s[n]? = some (some (.ref A.p))) (he : Ev te s H (.int h)) (T : MachAt Z H A m) (W : Wf m) (hl : h < m.hands.length)
    (q : ∀ v H', MachAt Z H' A (m.step h) → Chg A.owns H H' → TellAt H' v (m.turn h).1 → Q v H') : tMeth Z.M "turn" (sp_M_turn Z) [] E0 (tVar n) (tCons te tNil) s H Q :=
  s_meth (ev_var h0) T.obj (mf_no _ _ _ (by simp)) (ea_cons he ea_nil) ⟨A, m, h, rfl, T, W, hl, fun H' v T' C t _ => q v H' T' C t⟩
theorem s_turnR {Z : Cs} {s : L2.St} {H : Hp} {A : MA} {m : M} {n : Nat} {te : TE} {h : Nat} {Q : VK} (h0 : s[n]? = some (some (.ref A.p))) (he : Ev te s H (.int h)) (T : MachAt Z H A m) (W : Wf m) (hl : h < m.hands.length) (hr : m.rests h = true)
    (q : ∀ v H', Same H H' → TellAt H' v .rests → Q v H') : tMeth Z.M "turn" (sp_M_turn Z) [] E0 (tVar n) (tCons te tNil) s H Q :=
  s_meth (ev_var h0) T.obj (mf_no _ _ _ (by simp)) (ea_cons he ea_nil) ⟨A, m, h, rfl, T, W, hl, fun H' v T' C t S => q v H' (S hr) (by rw [step_rests hr] at t; exact t)⟩
theorem TellAt.mono {H H' : Hp} (t : Tups H H') {v : V} {w : Tell} (h : TellAt H v w) : TellAt H' v w := let ⟨q, e, h⟩ := h; ⟨q, e, t _ _ h⟩
theorem pure_played {Z : Cs} (k : ZOk Z) (vs : List V) (H : Hp) (Q : VK) (E : XK) (h : sp_played Z vs H Q E) : t_played Z { nx := fun _ H' => Q .non H', rt := Q } (start ["values", "programs", "rule", "weaving", "machine", "hand"] vs) H := by
  obtain ⟨lv, lp, lr, lw, values, ps, r, w, rfl, hv, hp, hr, ok, hw, hh, hlen, q⟩ := h
  unfold t_played
  walk_at "q"
  refine s_asg_of (s_machine (ea_cons (ev_var rfl) (ea_cons (ev_var rfl) (ea_cons (ev_var rfl) ea_nil))) hv hp hr ok fun A H1 c1 own T => ?_)
  show ({ nx := tRet _ _, rt := Q : Ends }).nx _ _
  dsimp only
  refine s_ret_of ?_
  refine e_lcL (ev_var rfl) (Same.seq c1 hw) (fun D i H' => Same H H' ∧ MachAt Z H' A ((M.begin_ values ps r).run (w.take i)) ∧ Chg A.owns H1 H' ∧ ∃ us, H' D = some (.lst us) ∧ All2 (TellAt H') us ((M.begin_ values ps r).tells (w.take i)))
    (fun D hD => ⟨fun b o e => Same.new hD _ _ (c1 b o e), T.new hD, Chg.same (Same.new hD), [], upd_same, .nil⟩) (fun D i H' _ _ p => Same.seq p.1 hw) (fun D i x H' hx hD p => ?_) (fun D H' hD p => ?_)
  · obtain ⟨s1, T1, C1, us, hL, hu⟩ := p
    obtain ⟨h, hh1, rfl⟩ := map_get hx
    have hlt := hh h (List.mem_of_getElem? hh1)
    have f : Fine ps r ((M.begin_ values ps r).run (w.take i)) := (Fine.begin_ ok).run fun x hx => hh x (List.mem_of_mem_take hx)
    have nD : ∀ a, A.owns a → a ≠ D := fun a ha => T.own_ne ha hD
    have hDn : H D = none := free_of c1 hD
    refine ⟨rfl, et_yes _ (iteT (s_turn rfl (ev_var rfl) T1 f.wf (by rw [f.hn]; exact hlt) fun v H2 T2 C2 t => ?_))⟩
    have hL2 := C2.keep _ _ hL fun z => nD D z rfl
    have hul := hu.length
    rw [tells_len] at hul
    refine ⟨us, hL2, ?_, ?_, ?_, ?_, us ++ [v], upd_same, ?_⟩
    · rw [hul, List.length_take]
      exact Nat.lt_of_le_of_lt (Nat.le_trans (Nat.min_le_right _ _) hlen) (by decide)
    · refine same_newer (same_own (F := A.owns) s1 C2 own) hDn
    · rw [take_snoc hh1, run_snoc]
      exact T2.fill hL2 nD
    · exact chg_fill' (C1.trans C2) hD
    · have tup : Tups H2 (upd H2 D (.lst (us ++ [v]))) := fun b xs e => by
        rw [upd_ne (fun z => by rw [z, hL2] at e; cases e)]
        exact e
      rw [take_snoc hh1, tells_snoc]
      exact (hu.mono fun _ _ => TellAt.mono fun b xs e => tup _ _ (C2.tup _ _ e)).snoc (t.mono tup)
  · obtain ⟨s1, T1, C1, us, hL, hu⟩ := p
    rw [List.length_map, List.take_length] at hu
    exact q D us H' (free_of c1 hD) s1 hL hu
end SS

set_option Elab.async false
set_option linter.all false
set_option maxRecDepth 100000
set_option maxHeartbeats 4000000
namespace SS
open PySem L2
local macro_rules | `(tactic| walk_at "q") => `(tactic| ((try dsimp only); refine s_seq ?_))

theorem All2.mono2 {α β : Type} {R S : α → β → Prop} : ∀ {l m}, (∀ a b, a ∈ l → R a b → S a b) → All2 R l m → All2 S l m
  | _, _, _, .nil => .nil
  | _, _, h, .cons a b => .cons (h _ _ List.mem_cons_self a) (All2.mono2 (fun x y hx => h x y (List.mem_cons_of_mem _ hx)) b)
theorem All2.mem' {α β : Type} {R : α → β → Prop} {a : α} : ∀ {l m}, All2 R l m → a ∈ l → ∃ b, R a b
  | _, _, .nil, h => by cases h
  | _, _, .cons x y, h => by
    rcases List.mem_cons.mp h with rfl | h
    · exact ⟨_, x⟩
    · exact All2.mem' y h

theorem pure_whole {Z : Cs} (k : ZOk Z) (vs : List V) (H : Hp) (Q : VK) (E : XK) (h : sp_whole Z vs H Q E) : t_whole Z { nx := fun _ H' => Q .non H', rt := Q } (start ["values", "programs", "rule", "weaving", "machine", "hand", "answers"] vs) H := by
  obtain ⟨lv, lp, lr, lw, values, ps, r, w, rfl, hv, hp, hr, ok, hw, hh, q⟩ := h
  have hp0 := hp
  obtain ⟨us, hps, hus⟩ := hp0
  have hul := hus.length
  unfold t_whole
  walk_at "q"
  refine s_asg_of (s_machine (ea_cons (ev_var rfl) (ea_cons (ev_var rfl) (ea_cons (ev_var rfl) ea_nil))) hv hp hr ok fun A H1 c1 own T => ?_)
  show ({ nx := _, rt := Q : Ends }).nx _ _
  walk_at "q"
  refine s_forL (ev_var rfl) (Same.seq c1 hw) (fun i s' H' => ∃ x : Option V, s' = [some (.ref lv), some (.ref lp), some (.ref lr), some (.ref lw), some (.ref A.p), x, none] ∧ MachAt Z H' A ((M.begin_ values ps r).run (w.take i)) ∧ Chg A.owns H1 H')
    ⟨none, rfl, T, Chg.refl _ _⟩ (fun i s' H' _ ⟨_, _, _, C⟩ => Same.seq (same_own c1 C own) hw) (fun i x s' H' hx p => ?_) (fun s' H' p => ?_)
  · obtain ⟨y, rfl, T1, C1⟩ := p
    obtain ⟨h, hh1, rfl⟩ := map_get hx
    have hlt := hh h (List.mem_of_getElem? hh1)
    have f : Fine ps r ((M.begin_ values ps r).run (w.take i)) := (Fine.begin_ ok).run fun x hx => hh x (List.mem_of_mem_take hx)
    refine s_drop' (s_turn rfl (ev_var rfl) T1 f.wf (by rw [f.hn]; exact hlt) fun v H2 T2 C2 t => ⟨_, rfl, ?_, C1.trans C2⟩)
    rw [take_snoc hh1, run_snoc]
    exact T2
  · obtain ⟨y, rfl, T1, C1⟩ := p
    rw [List.length_map, List.take_length] at T1
    have f0 : Fine ps r ((M.begin_ values ps r).run w) := (Fine.begin_ ok).run hh
    walk_at "q"
    refine s_whileN (fun n s' H' => ∃ (x : Option V) (m : M), s' = [some (.ref lv), some (.ref lp), some (.ref lr), some (.ref lw), some (.ref A.p), x, none] ∧ MachAt Z H' A m ∧ Chg A.owns H1 H' ∧ Fine ps r m ∧ m.mu < n ∧ M.finish n m = wholeM values ps r w)
      ⟨1000, y, _, rfl, T1, C1, f0, f0.mu_le, rfl⟩ ?_ ?_
    · rintro n s' H' ⟨x, m, rfl, T2, C2, f, hmu, hf⟩
      have h3 : m.hands.length ≤ 1000 := by have := f.hn; have := f.plen; omega
      refine t_B_of (s_meth (ev_var rfl) T2.obj (mf_no _ _ _ (by simp)) ea_nil ⟨A, m, rfl, T2, h3, fun H2 s2 => ⟨_, rfl, ?_⟩⟩)
      have T3 := T2.same s2
      have C3 : Chg A.owns H1 H2 := C2.trans (Chg.same s2)
      cases e : m.isDone with
      | false =>
        dsimp only
        rw [if_pos (by rfl)]
        cases n with
        | zero => omega
        | succ n =>
          rw [finish_step e] at hf
          have lt := f.round_lt e
          refine s_forR (n := us.length) (ev_lenL (ev_var rfl) (Same.seq (same_own c1 C3 own) hps)) (by have := f.plen; omega) (fun i s' H' => ∃ x : Option V, s' = [some (.ref lv), some (.ref lp), some (.ref lr), some (.ref lw), some (.ref A.p), x, none] ∧ MachAt Z H' A (m.run (List.range i)) ∧ Chg A.owns H1 H')
            ⟨x, rfl, T3, C3⟩ (fun i s' H' hi p => ?_) (fun s' H' p => ?_)
          · obtain ⟨y, rfl, T4, C4⟩ := p
            have f2 : Fine ps r (m.run (List.range i)) := f.run fun h hh => by have := List.mem_range.mp hh; omega
            refine s_drop' (s_turn rfl (ev_var rfl) T4 f2.wf (by rw [f2.hn]; omega) fun v H5 T5 C5 t => ⟨_, rfl, ?_, C4.trans C5⟩)
            rw [List.range_succ, run_snoc]
            exact T5
          · obtain ⟨y, rfl, T4, C4⟩ := p
            refine ⟨n, Nat.lt_succ_self n, y, m.round, rfl, ?_, C4, f.round, by omega, hf⟩
            have e : m.hands.length = us.length := by rw [f.hn, hul]
            unfold M.round
            rw [e]
            exact T4
      | true =>
        dsimp only
        rw [if_neg (by simp)]
        rw [finish_done e] at hf
        subst hf
        generalize wholeM values ps r w = m at *
        have S2 : Same H H2 := same_own c1 C3 own
        have ml : m.hands.length = us.length := by rw [f.hn, hul]
        walk_at "q"
        refine s_asg_of (e_lcR (n := us.length) (ev_lenL (ev_var rfl) (Same.seq S2 hps)) (by have := f.plen; omega) (fun D i H' => Same H2 H' ∧ ∃ as : List Addr, H' D = some (.lst (as.map V.ref)) ∧ All2 (fun (a : Addr) (x : Hd) => H' a = some (.lst (x.said.map ansV))) as (m.hands.take i) ∧ as.Nodup ∧ ∀ a ∈ as, H2 a = none ∧ a ≠ D)
          (fun D hD => ⟨Same.new hD, [], upd_same, by rw [List.take_zero]; exact .nil, List.nodup_nil, fun _ h => by cases h⟩) (fun D i H' hi hD p => ?_) (fun D H' hD p => ?_))
        · obtain ⟨s3, as, hL, ha, nd, fr⟩ := p
          have T4 := T3.same s3
          obtain ⟨a, hah⟩ := T4.hand_of (i := i) (by omega)
          refine ⟨rfl, et_yes _ (iteT (s_meth (ev_var rfl) T4.obj (mf_no _ _ _ (by simp)) (ea_cons (ev_var rfl) ea_nil) ⟨A, m, i, a, rfl, T4, hah, fun l hl => ?_⟩))⟩
          have lD : l ≠ D := fun z => by rw [z, hL] at hl; cases hl
          have hl2 : H2 l = none := free_of s3 hl
          have hi2 : m.hands[i]? = some (m.hd i) := by
            unfold M.hd
            rw [List.getD_eq_getElem?_getD, List.getElem?_eq_getElem (by omega)]
            rfl
          have hal := ha.length
          rw [List.length_take] at hal
          refine ⟨as.map V.ref, by rw [upd_ne lD.symm]; exact hL, ?_, ?_, as ++ [l], ?_, ?_, ?_, ?_⟩
          · rw [List.length_map, hal]
            have := f.plen
            exact Nat.lt_of_le_of_lt (by omega : _ ≤ 3) (by decide)
          · exact same_newer (fun b o e => Same.new hl _ _ (s3 b o e)) hD
          · rw [List.map_append]
            exact upd_same
          · rw [take_snoc hi2]
            refine (All2.mono2 (fun a x hm e => ?_) ha).snoc ?_
            · have h1 := fr a hm
              rw [upd_ne h1.2, upd_ne (fun z => by rw [z, hl] at e; cases e)]
              exact e
            · rw [upd_ne lD, upd_same]
          · rw [List.nodup_append]
            refine ⟨nd, by simp, ?_⟩
            intro a ha1 b hb
            have hb' : b = l := by simpa using hb
            subst hb'
            obtain ⟨x, hx⟩ := All2.mem' ha ha1
            exact fun z => by rw [z, hl] at hx; cases hx
          · intro b hb
            rcases List.mem_append.mp hb with h | h
            · exact fr b h
            · have hb' : b = l := by simpa using h
              subst hb'
              exact ⟨hl2, lD⟩
        · obtain ⟨s3, as, hL, ha, nd, fr⟩ := p
          rw [← ml, List.take_length] at ha
          have T4 := T3.same s3
          have hDH : H D = none := free_of S2 hD
          show ({ nx := tRet _ _, rt := Q : Ends }).nx _ _
          dsimp only
          refine s_ret_of (t_tup_of (t_cons_of (ev_var rfl _ (t_cons_of (s_meth (ev_var rfl) T4.obj (mf_no _ _ _ (by simp)) ea_nil ⟨A, m, rfl, T4, fun lo uo hlo huo => ?_⟩)))))
          have T5 := T4.new (o := .lst uo) hlo
          have s5 : Same H2 (upd H' lo (.lst uo)) := fun b o e => Same.new hlo _ _ (s3 b o e)
          refine t_cons_of (s_meth (ev_var rfl) T5.obj (mf_no _ _ _ (by simp)) ea_nil ⟨A, m, rfl, T5, f.pile, fun lq H6 hlq s6 eq6 => ?_⟩)
          have T6 := T5.same s6
          refine t_cons_of (s_meth (ev_var rfl) T6.obj (mf_no _ _ _ (by simp)) ea_nil ⟨A, m, rfl, T6, ?_⟩)
          refine ⟨by show 4 ≤ sizeLine; decide, fun p hp => ?_⟩
          have sp6 : Same H6 (upd H6 p (.tup [.ref D, .ref lo, .ref lq, .bl m.strayed])) := Same.new hp
          have loD : lo ≠ D := fun z => by rw [z, hL] at hlo; cases hlo
          have hlo5 : (upd H' lo (.lst uo)) lo = some (.lst uo) := upd_same
          have hD5 : (upd H' lo (.lst uo)) D = some (.lst (as.map V.ref)) := by rw [upd_ne loD.symm]; exact hL
          have lqD : lq ≠ D := fun z => by rw [z, hD5] at hlq; cases hlq
          have lqlo : lq ≠ lo := fun z => by rw [z, hlo5] at hlq; cases hlq
          have all5 : ∀ a ∈ as, ∃ o, H' a = some o := fun a h => by obtain ⟨x, hx⟩ := All2.mem' ha h; exact ⟨_, hx⟩
          have stp : ∀ b o, H' b = some o → upd H6 p (.tup [.ref D, .ref lo, .ref lq, .bl m.strayed]) b = some o := fun b o e => sp6 _ _ (s6 _ _ (Same.new hlo _ _ e))
          refine q _ _ (fun b o e => stp b o (s3 _ _ (S2 _ _ e))) ⟨p, D, lo, lq, as, uo, rfl, upd_same, stp _ _ hL, ha.mono fun a x e => stp _ _ e, sp6 _ _ (s6 _ _ hlo5), huo.mono fun _ _ => PairAt.mono fun b xs e => stp _ _ e, sp6 _ _ eq6, ?_, ?_⟩
          · have n1 : D ∉ as := fun h => (fr D h).2 rfl
            have n2 : lo ∉ as := fun h => by obtain ⟨o, e⟩ := all5 lo h; rw [hlo] at e; cases e
            have n3 : lq ∉ as := fun h => by
              obtain ⟨o, e⟩ := all5 lq h
              have := Same.new (o := .lst uo) hlo _ _ e
              rw [hlq] at this
              cases this
            simp [n1, n2, n3, nd, loD.symm, lqD.symm, lqlo.symm]
          · intro a h
            have S3 : Same H H' := fun b o e => s3 _ _ (S2 _ _ e)
            rcases List.mem_cons.mp h with rfl | h
            · exact hDH
            rcases List.mem_cons.mp h with rfl | h
            · exact free_of S3 hlo
            rcases List.mem_cons.mp h with rfl | h
            · exact free_of (fun b o e => Same.new hlo _ _ (S3 b o e)) hlq
            · exact free_of S2 (fr a h).1
    · rintro s' H' R R' hR ⟨v, hv, a, dx, fs, e1, e2, e3, A, m, e4, T, l, g⟩
      exact ⟨v, hv, a, dx, fs, e1, e2, e3, A, m, e4, T, l, fun H1 s1 => let ⟨k, ek, r⟩ := g H1 s1; ⟨k, ek, hR _ _ r⟩⟩
end SS

set_option Elab.async false
set_option linter.all false
set_option maxRecDepth 100000
set_option maxHeartbeats 4000000
namespace SS
open PySem PySem.Spec PyProof.Rows L2
section
variable {X : Cx}
/-- xs[::k], k one or less one -/
def tStepL (K : PySem.W.Frag) (te ts : TE) : TE := fun σ H Q => te σ H fun x H1 => tPart ts σ H1 fun o H2 => ∃ a xs k, x = .ref a ∧ o = some k ∧ SqL K H2 a xs ∧ (k = 1 ∨ k = -1) ∧ ∀ p, H2 p = none → Q (.ref p) (upd H2 p (.lst (if k = 1 then xs else xs.reverse)))
theorem pe_stepL {e st : Expr} {te ts : TE} {p3 pos : Pos} (he : PE X e te) (hst : PE X st ts) (hsub : ∀ a b, subscripted (.Slice none none (some st) p3) false a b = operate [a, b] (getItem a b) := by intro _ _; rfl) : PE X (.Subscript e (.Slice none none (some st) p3) pos) (tStepL X.K te ts) := by
  refine ⟨fun pins s σ H Q I h => ?_⟩
  refine Subscript_ (thn (he.run pins s σ H _ I h) fun v s1 ⟨x, H1, I1, r1, q1⟩ => ?_)
  refine wpAny_Slice (thn (po_none.run pins s1 σ H1 (fun o H2 => o = none ∧ H2 = H1) I1 ⟨rfl, rfl⟩) fun vl s2 ⟨l, H2, I2, pl, el, e2⟩ => ?_)
  subst el e2
  refine thn (po_none.run pins s2 σ H2 (fun o H3 => o = none ∧ H3 = H2) I2 ⟨rfl, rfl⟩) fun vu s3 ⟨u, H3, I3, pu, eu, e3⟩ => ?_
  subst eu e3
  refine thn ((po_some hst).run pins s3 σ H3 (fun o H4 => ∃ a xs k, x = .ref a ∧ o = some k ∧ SqL X.K H4 a xs ∧ (k = 1 ∨ k = -1) ∧ ∀ p, H4 p = none → Q (.ref p) (upd H4 p (.lst (if k = 1 then xs else xs.reverse)))) I3 q1) fun vs s4 ⟨o, H4, I4, ps, a, xs, kk, ex, eo, hx, hk, q⟩ => ?_
  subst eo ex
  cases r1
  have I5 : Inv X pins σ H4 { s4 with heap := s4.heap.push { cls := .type "slice", data := .fields #[vl, vu, vs] } } := I4.kept (t' := s4.toks) fun b ob q => Heap.get?_push_of_some _ q
  obtain ⟨its, r, ht, hz⟩ := I5.list hx
  have hlen := r.length
  show wpAny (model X.prog X.w) X.A (subscriptTail e (.Slice none none (some st) p3) (.ref a) (.ref s4.heap.objs.size)) (EP X pins σ Q) X.xe { s4 with heap := s4.heap.push { cls := .type "slice", data := .fields #[vl, vu, vs] } }
  refine tail_any (ops := [.ref a, .ref s4.heap.objs.size]) ht.isList.typeIs (PySem.slot_list_getitem.lookup) ?_ (hsub _ _)
  refine wpAny_getItem_list_slice ht.isList (Heap.IsSliceOf.new _ vl vu vs) pl pu ps (by rcases hk with rfl | rfl <;> decide) ?_ (by rw [List.size_toArray]; omega)
  rcases hk with rfl | rfl
  · have e1 : slicePick its.toArray none none (some 1) = its.toArray := by
      have e2 : slicePick its.toArray none none (some 1) = slicePick its.toArray none none none := rfl
      rw [e2, slicePick_cut]
      simp [HT.sIx]
    rw [e1]
    refine ⟨.ref _, _, I5.laid (t' := s4.toks) (o := .lst xs) (fun b ob q => Heap.get?_push_of_some _ q) (Nat.le_refl _) ?_, rfl, ?_⟩
    · exact ⟨hz, _, 0, r, Heap.get?_push_size _ rfl⟩
    · have q' := q _ (I5.hok.fresh (Nat.le_refl _))
      rw [if_pos rfl] at q'
      exact q'
  · rw [PySem.W.krv_pick]
    refine ⟨.ref _, _, I5.laid (t' := s4.toks) (o := .lst xs.reverse) (fun b ob q => Heap.get?_push_of_some _ q) (Nat.le_refl _) ?_, rfl, ?_⟩
    · exact ⟨by rw [List.length_reverse]; exact hz, _, 0, r.reverse, Heap.get?_push_size _ rfl⟩
    · have q' := q _ (I5.hok.fresh (Nat.le_refl _))
      rw [if_neg (by decide)] at q'
      exact q'
end
end SS

set_option Elab.async false
set_option linter.all false
set_option maxRecDepth 100000
set_option maxHeartbeats 4000000
namespace SS
open PySem L2
local macro_rules | `(tactic| walk_at "q") => `(tactic| ((try dsimp only); refine s_seq ?_))

/-- the script, locked or the module's -/
def ScrAt (K : PySem.W.Frag) (H : Hp) (a : Addr) (xs : List V) : Prop := (∃ o, H a = some (.frz o (.lst xs))) ∨ ∃ (o : Obj) (its : Array Value) (n : Nat), K.lookup a = some o ∧ o.cls = .type "list" ∧ o.dict = none ∧ o.data = .seq its n ∧ its.size ≤ sizeLine ∧ Vals xs its.toList
theorem ScrAt.seq {K : PySem.W.Frag} {H : Hp} {a : Addr} {xs : List V} (h : ScrAt K H a xs) : SqL K H a xs := by
  rcases h with ⟨o, h⟩ | h
  · exact .inl (.inr ⟨o, h⟩)
  · exact .inr h
theorem ScrAt.chg {K : PySem.W.Frag} {F : Addr → Prop} {H H' : Hp} {a : Addr} {xs : List V} (h : ScrAt K H a xs) (c : Chg F H H') : ScrAt K H' a xs := by
  rcases h with ⟨o, h⟩ | h
  · exact .inl ⟨o, c.frz h⟩
  · exact .inr h
theorem ScrAt.of {K : PySem.W.Frag} {H : Hp} {a : Addr} {xs : List V} (hO : Only H) (h : SqL K H a xs) : ScrAt K H a xs := by
  rcases h with (h | ⟨o, h⟩) | h
  · rcases hO a with z | ⟨o, ys, z⟩ <;> rw [h] at z <;> cases z
  · exact .inl ⟨o, h⟩
  · exact .inr h
/-! ### the dice: a list of four; what is drawn is any number in its bounds -/
def DiceAt (K : PySem.W.Frag) (H : Hp) (d : Addr) : Prop := ∃ (sc : Addr) (ns : List Int) (a b c : Int), H d = some (.lst [.ref sc, .int a, .int b, .int c]) ∧ ScrAt K H sc (ns.map V.int) ∧ 0 ≤ a
abbrev Dc (d : Addr) : Addr → Prop := fun a => a = d
/-- programs in lists -/
def PgAt (H : Hp) (l : Addr) (ps : List (List Deed)) : Prop := ∃ us, H l = some (.lst us) ∧ All2 (ProgAt H) us ps
def sp_L_dice (Z : Cs) : Sp := fun vs H Q _ => ∃ (sc : Addr) (ns : List Int), vs = [.ref sc] ∧ ScrAt Z.K H sc (ns.map V.int) ∧ ∀ d H', H d = none → Same H H' → DiceAt Z.K H' d → Q (.ref d) H'
def sp_L_next (Z : Cs) : Sp := fun vs H Q _ => ∃ (d : Addr) (m : Nat), vs = [.ref d, .int m] ∧ DiceAt Z.K H d ∧ 0 < m ∧ m < 1073741824 ∧ ∀ (r : Nat) H', r < m → Chg (Dc d) H H' → DiceAt Z.K H' d → Q (.int r) H'
def sp_L_values (Z : Cs) : Sp := fun vs H Q _ => ∃ (d : Addr) (m : Nat), vs = [.ref d, .int m] ∧ DiceAt Z.K H d ∧ m ≤ 1000 ∧
  ∀ l (ns : List Int) H', H l = none → Chg (Dc d) H H' → DiceAt Z.K H' d → H' l = some (.lst (ns.map V.int)) → ns.length ≤ m → (∀ v ∈ ns, okVal v) → Q (.ref l) H'
def sp_L_deed (Z : Cs) : Sp := fun vs H Q _ => ∃ (d : Addr), vs = [.ref d] ∧ DiceAt Z.K H d ∧ ∀ v (e : Deed) H', Chg (Dc d) H H' → DiceAt Z.K H' d → DeedAt H' v e → okDeed e → Q v H'
def sp_L_programs (Z : Cs) : Sp := fun vs H Q _ => ∃ (d : Addr) (hn dn : Nat), vs = [.ref d, .int hn, .int dn] ∧ DiceAt Z.K H d ∧ 1 ≤ hn ∧ hn ≤ 3 ∧ dn ≤ 4 ∧
  ∀ l ps H', H l = none → Chg (Dc d) H H' → DiceAt Z.K H' d → PgAt H' l ps → 1 ≤ ps.length → ps.length ≤ hn → (∀ p ∈ ps, p.length ≤ 4) → (∀ p ∈ ps, ∀ e ∈ p, okDeed e) → Q (.ref l) H'
def sp_L_rule (Z : Cs) : Sp := fun vs H Q _ => ∃ (d : Addr) (many : Nat), vs = [.ref d, .int many] ∧ DiceAt Z.K H d ∧ many ≤ 1000 ∧ ∀ a r H', Chg (Dc d) H H' → DiceAt Z.K H' d → RuleAt H' a r → okRule many r → Q (.ref a) H'
def sp_L_weaving (Z : Cs) : Sp := fun vs H Q _ => ∃ (d : Addr) (many most : Nat), vs = [.ref d, .int many, .int most] ∧ DiceAt Z.K H d ∧ 1 ≤ many ∧ many ≤ 1000 ∧ 1 ≤ most ∧ most ≤ 1000 ∧
  ∀ l (w : List Nat) H', H l = none → Chg (Dc d) H H' → DiceAt Z.K H' d → H' l = some (.lst (w.map natV)) → (∀ h ∈ w, h < many) → w.length ≤ 5 * most → Q (.ref l) H'

/-! ### readings (printed) -/
/-- _law_dice: 0 _law_script, 1 _law_mixed, 2 _law_cell_here -/
def t_L_dice (Z : Cs) : TS :=
  tSeq (tAsg (tC (.int 0)) (gName 1))
    (tSeq (tFor (iList Z.K (tVar 0)) (gName 2) ((tAsg (tOp rModI (tOp rAddI (tOp rAddI (tOp rMulI (tVar 1) (tC (.int 48271))) (tOp rMulI (tOp rModI (tVar 2) (tC (.int 2147483647))) (tC (.int 69621)))) (tC (.int 11))) (tC (.int 2147483647))) (gName 1))))
    ((tRet (tLst (tCons (tVar 0) (tCons (tC (.int 0)) (tCons (tOp rMulI (tVar 1) (tCB rInt1 (tCons (tOp rGtI (tCB (rLen1 Z.K) (tCons (tVar 0) tNil)) (tC (.int 2))) tNil))) (tCons (tC (.int 0)) tNil))))))))
/-- _law_next: 0 _law_dice_here, 1 _law_many, 2 _law_found, 3 _law_cell_here -/
def t_L_next (Z : Cs) : TS :=
  tSeq (tIfS (tTest (tOp rGtI (tOp (rIxL Z.K) (tVar 0) (tC (.int 3))) (tC (.int 0)))) (tSeq (tAsg (tOp rModI (tOp (rIxL Z.K) (tVar 0) (tC (.int 3))) (tVar 1)) (gName 2))
    (tSeq (tAsg (tOp rFdivI (tOp (rIxL Z.K) (tVar 0) (tC (.int 3))) (tVar 1)) (gSub (tVar 0) (tC (.int 3)) rSetL))
    ((tRet (tVar 2))))) (tNext))
    (tSeq (tAsg (tOp rAddI (tOp (rIxL Z.K) (tVar 0) (tC (.int 1))) (tC (.int 1))) (gSub (tVar 0) (tC (.int 1)) rSetL))
    (tSeq (tIfS (tTest (tOp rLeI (tOp (rIxL Z.K) (tVar 0) (tC (.int 1))) (tCB (rLen1 Z.K) (tCons (tOp (rIxL Z.K) (tVar 0) (tC (.int 0))) tNil)))) (tSeq (tAsg (tOp (rIxL Z.K) (tOp (rIxL Z.K) (tVar 0) (tC (.int 0))) (tOp rSubI (tOp (rIxL Z.K) (tVar 0) (tC (.int 1))) (tC (.int 1)))) (gName 3))
    (tSeq (tAsg (tIf (tTest (tOp rGeI (tVar 3) (tOp rPowI (tC (.int 10)) (tC (.int 18))))) (tOp rFdivI (tVar 3) (tVar 1)) (tC (.int 0))) (gSub (tVar 0) (tC (.int 3)) rSetL))
    ((tRet (tOp rModI (tVar 3) (tVar 1)))))) (tNext))
    (tSeq (tAsg (tOp rModI (tOp rMulI (tOp (rIxL Z.K) (tVar 0) (tC (.int 2))) (tC (.int 48271))) (tC (.int 2147483647))) (gSub (tVar 0) (tC (.int 2)) rSetL))
    ((tRet (tOp rModI (tOp rFdivI (tOp (rIxL Z.K) (tVar 0) (tC (.int 2))) (tC (.int 7))) (tVar 1)))))))
/-- _law_values: 0 _law_d, 1 _law_most, 2 _law_k -/
def t_L_values (Z : Cs) : TS :=
  (tRet (tLc (iRng1 (tCons (tCall (sp_L_next Z) [] E0 (tCons (tVar 0) (tCons (tOp rAddI (tVar 1) (tC (.int 1))) tNil))) tNil)) (gName 2) tYes (tCall (sp_L_next Z) [] E0 (tCons (tVar 0) (tCons (tC (.int 100)) tNil))) [2]))
/-- _law_deed: 0 _law_d -/
def t_L_deed (Z : Cs) : TS :=
  tSeq (tIfS (tTest (tOp rEq (tCall (sp_L_next Z) [] E0 (tCons (tVar 0) (tCons (tC (.int 3)) tNil))) (tC (.int 1)))) ((tRet (tTup (tCons (tC (.str "push")) (tCons (tCall (sp_L_next Z) [] E0 (tCons (tVar 0) (tCons (tC (.int 100)) tNil))) tNil))))) (tNext))
    ((tRet (tTup (tCons (tC (.str "pop")) tNil))))
/-- _law_programs: 0 _law_d, 1 _law_hands, 2 _law_deeds, 3 _law_rows, 4 _law_k, 5 _law_hand -/
def t_L_programs (Z : Cs) : TS :=
  tSeq (tIfS ((tAnd (tTest (tOp rGtI (tVar 1) (tC (.int 1)))) (tTest (tOp rEq (tCall (sp_L_next Z) [] E0 (tCons (tVar 0) (tCons (tC (.int 3)) tNil))) (tC (.int 2)))))) (tSeq (tAsg (tLst (tCons (tLst (tCons (tTup (tCons (tC (.str "pop")) tNil)) tNil)) (tCons (tLst (tCons (tTup (tCons (tC (.str "pop")) tNil)) (tCons (tTup (tCons (tC (.str "pop")) tNil)) (tCons (tTup (tCons (tC (.str "push")) (tCons (tCall (sp_L_next Z) [] E0 (tCons (tVar 0) (tCons (tC (.int 100)) tNil))) tNil))) tNil)))) tNil))) (gName 3))
    (tSeq (tDrop (tBM Z.K "list" rInsert (tOp (rIxL Z.K) (tVar 3) (tCall (sp_L_next Z) [] E0 (tCons (tVar 0) (tCons (tC (.int 2)) tNil)))) (tCons (tC (.int 0)) (tCons (tCall (sp_L_deed Z) [] E0 (tCons (tVar 0) tNil)) tNil))))
    ((tRet (tStepL Z.K (tVar 3) (tOp (rIxL Z.K) (tLst (tCons (tC (.int 1)) (tCons (tUn rNegI (tC (.int 1))) tNil))) (tCall (sp_L_next Z) [] E0 (tCons (tVar 0) (tCons (tC (.int 2)) tNil))))))))) (tNext))
    ((tRet (tLc (iRng1 (tCons (tOp rAddI (tC (.int 1)) (tCall (sp_L_next Z) [] E0 (tCons (tVar 0) (tCons (tVar 1) tNil)))) tNil)) (gName 5) tYes (tLc (iRng1 (tCons (tCall (sp_L_next Z) [] E0 (tCons (tVar 0) (tCons (tOp rAddI (tVar 2) (tC (.int 1))) tNil))) tNil)) (gName 4) tYes (tCall (sp_L_deed Z) [] E0 (tCons (tVar 0) tNil)) [4]) [5])))
/-- _law_rule: 0 _law_d, 1 _law_many, 2 _law_kind, 3 _law_hand -/
def t_L_rule (Z : Cs) : TS :=
  tSeq (tAsg (tCall (sp_L_next Z) [] E0 (tCons (tVar 0) (tCons (tC (.int 4)) tNil))) (gName 2))
    (tSeq (tIfS (tTest (tOp rLtI (tVar 2) (tC (.int 2)))) ((tRet (tTup (tCons (tC (.str "counts")) (tCons (tOp rAddI (tC (.int 1)) (tCall (sp_L_next Z) [] E0 (tCons (tVar 0) (tCons (tOp (rIxL Z.K) (tLst (tCons (tC (.int 3)) (tCons (tC (.int 15)) tNil))) (tCall (sp_L_next Z) [] E0 (tCons (tVar 0) (tCons (tC (.int 2)) tNil)))) tNil)))) tNil))))) (tNext))
    (tSeq (tIfS (tTest (tOp rEq (tVar 2) (tC (.int 2)))) ((tRet (tTup (tCons (tC (.str "marks")) (tCons (tCB (rTupleOf Z.K) (tCons (tLc (iRng1 (tCons (tVar 1) tNil)) (gName 3) (tTest (tOp rEq (tCall (sp_L_next Z) [] E0 (tCons (tVar 0) (tCons (tC (.int 2)) tNil))) (tC (.int 1)))) (tVar 3) [3]) tNil)) tNil))))) (tNext))
    ((tRet (tTup (tCons (tC (.str "keeps")) tNil))))))
/-- _law_weaving: 0 _law_d, 1 _law_many, 2 _law_most, 3 _law_weaving_here, 4 _law_k -/
def t_L_weaving (Z : Cs) : TS :=
  tSeq (tAsg (tLst tNil) (gName 3))
    (tSeq (tFor (iRng1 (tCons (tCall (sp_L_next Z) [] E0 (tCons (tVar 0) (tCons (tVar 2) tNil))) tNil)) (gName 4) ((tAsg (tOp rCat (tVar 3) (tOp rRep (tLst (tCons (tCall (sp_L_next Z) [] E0 (tCons (tVar 0) (tCons (tVar 1) tNil))) tNil)) (tOp rAddI (tC (.int 1)) (tCall (sp_L_next Z) [] E0 (tCons (tVar 0) (tCons (tC (.int 5)) tNil)))))) (gName 3))))
    ((tRet (tVar 3))))
end SS

set_option Elab.async false
set_option linter.all false
set_option maxRecDepth 100000
set_option maxHeartbeats 4000000
namespace SS
open PySem L2
local macro_rules | `(tactic| walk_at "q") => `(tactic| ((try dsimp only); refine s_seq ?_))

theorem DiceAt.ne {K : PySem.W.Frag} {H : Hp} {d D : Addr} (x : DiceAt K H d) (h : H D = none) : D ≠ d := by
  obtain ⟨sc, ns, a, b, c, h1, _⟩ := x
  exact fun e => by rw [e, h1] at h; cases h
theorem Chg.ne {d : Addr} {H H' : Hp} (c : Chg (Dc d) H H') {b : Addr} {o : HO} (h : H b = some o) (n : b ≠ d) : H' b = some o := c.keep b o h n
theorem Chg.free {d : Addr} {H H' : Hp} {K : PySem.W.Frag} (c : Chg (Dc d) H H') (x : DiceAt K H' d) {b : Addr} (h : H' b = none) : H b = none := by
  cases z : H b with
  | none => rfl
  | some o =>
    have := c.keep b o z (x.ne h)
    rw [h] at this
    cases this
theorem DiceAt.chg {K : PySem.W.Frag} {F : Addr → Prop} {H H' : Hp} {d : Addr} (x : DiceAt K H d) (c : Chg F H H') (n : ¬ F d) : DiceAt K H' d := by
  obtain ⟨sc, ns, a, b, e, h1, h2, h3⟩ := x
  exact ⟨sc, ns, a, b, e, c.keep _ _ h1 n, h2.chg c, h3⟩
theorem DiceAt.same {K : PySem.W.Frag} {H H' : Hp} {d : Addr} (x : DiceAt K H d) (c : Same H H') : DiceAt K H' d := x.chg (F := fun _ => False) (Chg.same c) fun z => z
theorem chg_put {H : Hp} {d : Addr} {xs : List V} {o : HO} (h : H d = some (.lst xs)) : Chg (Dc d) H (upd H d o) := Chg.put rfl fun u e => by rw [h] at e; cases e; exact fun z => z
theorem DiceAt.put {K : PySem.W.Frag} {H : Hp} {d : Addr} {sc : Addr} {ns : List Int} {a b c : Int} {xs : List V} (h2 : ScrAt K H sc (ns.map V.int)) (hd : H d = some (.lst xs)) (h3 : 0 ≤ a) : DiceAt K (upd H d (.lst [.ref sc, .int a, .int b, .int c])) d :=
  ⟨sc, ns, a, b, c, upd_same, h2.chg (chg_put hd), h3⟩
theorem lcm_ {a : Int} : CMul a 48271 := .inr ⟨by decide, by decide⟩
theorem pure_L_dice {Z : Cs} (vs : List V) (H : Hp) (Q : VK) (E : XK) (h : sp_L_dice Z vs H Q E) : t_L_dice Z { nx := fun _ H' => Q .non H', rt := Q } (start ["_law_script", "_law_mixed", "_law_cell_here"] vs) H := by
  obtain ⟨sc, ns, rfl, S, q⟩ := h
  have L := S.seq
  unfold t_L_dice
  walk_at "q"
  refine s_asg ev_c ?_
  walk_at "q"
  refine s_forL (ev_var rfl) L (fun i s' H' => H' = H ∧ ∃ (x : Int) (w : Option V), s' = [some (.ref sc), some (.int x), w]) ⟨rfl, 0, none, rfl⟩ (fun i s' H' _ p => by rw [p.1]; exact L) ?_ ?_
  · rintro i y s' H' hy ⟨rfl, x, w, rfl⟩
    obtain ⟨n, hn, rfl⟩ := map_get hy
    refine s_asg (ev_mod (ev_add (ev_add (ev_mul (ev_var rfl) ev_c (.inr ⟨by decide, by decide⟩)) (ev_mul (ev_mod (ev_var rfl) ev_c (by decide)) ev_c (.inr ⟨by decide, by decide⟩))) ev_c) ev_c (by decide)) ⟨rfl, _, _, rfl⟩
  · rintro s' H' ⟨rfl, x, w, rfl⟩
    dsimp only
    refine e_lst (ea_cons (ev_var rfl) (ea_cons ev_c (ea_cons (ev_mul (ev_var rfl) (ev_int1 (ev_gt (ev_lenL (ev_var rfl) L) ev_c)) (.inr ?_)) (ea_cons ev_c ea_nil)))) (by show 4 ≤ 1000; decide) fun d hd => ?_
    · split <;> decide
    · refine q d _ hd (Same.new hd) ⟨sc, ns, 0, _, 0, upd_same, S.chg (F := fun _ => False) (Chg.same (Same.new hd)), Int.le_refl _⟩
theorem ev_d {K : PySem.W.Frag} {H : Hp} {s : L2.St} {n : Nat} {d : Addr} {xs : List V} {j : Nat} {v : V} (h : s[n]? = some (some (.ref d))) (hd : H d = some (.lst xs)) (hv : xs[j]? = some v) : Ev (tOp (rIxL K) (tVar n) (tC (.int j))) s H v :=
  ev_ixL (ev_var h) ev_c (SqL.of hd) (atI_nat hv)
theorem cdiv {i : Int} {m : Nat} (h1 : 0 < m) (h2 : m < 1073741824) : CDiv i m := ⟨by omega, by omega⟩
theorem modN {i : Int} {m : Nat} (h : 0 < m) : ∃ r : Nat, i % (m : Int) = r ∧ r < m := by
  have h1 := Int.emod_nonneg i (show (m : Int) ≠ 0 by omega)
  have h2 := Int.emod_lt_of_pos i (show (0 : Int) < m by omega)
  exact ⟨(i % (m : Int)).toNat, by omega, by omega⟩
theorem pure_L_next {Z : Cs} (vs : List V) (H : Hp) (Q : VK) (E : XK) (h : sp_L_next Z vs H Q E) : t_L_next Z { nx := fun _ H' => Q .non H', rt := Q } (start ["_law_dice_here", "_law_many", "_law_found", "_law_cell_here"] vs) H := by
  obtain ⟨d, m, rfl, ⟨sc, ns, a, b, c, hd, hS, ha⟩, hm, hm2, q⟩ := h
  unfold t_L_next
  have e1 : ∀ {s : L2.St} {H : Hp}, s[0]? = some (some (.ref d)) → ∀ {a b c : Int}, H d = some (.lst [.ref sc, .int a, .int b, .int c]) → Ev (tOp (rIxL Z.K) (tVar 0) (tC (.int 1))) s H (.int a) := fun h _ _ _ hd => ev_d (j := 1) h hd rfl
  have e2 : ∀ {s : L2.St} {H : Hp}, s[0]? = some (some (.ref d)) → ∀ {a b c : Int}, H d = some (.lst [.ref sc, .int a, .int b, .int c]) → Ev (tOp (rIxL Z.K) (tVar 0) (tC (.int 2))) s H (.int b) := fun h _ _ _ hd => ev_d (j := 2) h hd rfl
  have e3 : ∀ {s : L2.St} {H : Hp}, s[0]? = some (some (.ref d)) → ∀ {a b c : Int}, H d = some (.lst [.ref sc, .int a, .int b, .int c]) → Ev (tOp (rIxL Z.K) (tVar 0) (tC (.int 3))) s H (.int c) := fun h _ _ _ hd => ev_d (j := 3) h hd rfl
  walk_at "q"
  refine s_if (et_test (ev_gt (e3 rfl hd) ev_c)) (fun e => ?_) (fun e => ?_)
  · walk_at "q"
    refine s_asg (ev_mod (e3 rfl hd) (ev_var rfl) (by omega)) ?_
    walk_at "q"
    refine s_setL (i := 3) (j := 3) (ev_fdiv (e3 rfl hd) (ev_var rfl) (cdiv hm hm2)) (ev_var rfl) ev_c hd rfl ?_
    obtain ⟨r, er, hr⟩ := modN (i := c) hm
    dsimp only
    exact s_ret (ev_is (ev_var rfl) (by rw [er])) (q r _ hr (chg_put hd) (.put hS hd ha))
  · dsimp only [tNext]
    walk_at "q"
    refine s_setL (i := 1) (j := 1) (ev_add (e1 rfl hd) ev_c) (ev_var rfl) ev_c hd rfl ?_
    have hd1 : upd H d (.lst [.ref sc, .int (a + 1), .int b, .int c]) d = some (.lst [.ref sc, .int (a + 1), .int b, .int c]) := upd_same
    have hS1 : SqL Z.K (upd H d (.lst [.ref sc, .int (a + 1), .int b, .int c])) sc (ns.map V.int) := (hS.chg (chg_put hd)).seq
    have c1 : Chg (Dc d) H (upd H d (.lst [.ref sc, .int (a + 1), .int b, .int c])) := chg_put hd
    show ({ nx := _, rt := Q : Ends }).nx _ (upd H d (.lst [.ref sc, .int (a + 1), .int b, .int c]))
    walk_at "q"
    refine s_if (et_test (ev_le (e1 rfl hd1) (ev_lenL (ev_ixL (ev_var rfl) ev_c (SqL.of hd1) (atI_nat (j := 0) rfl)) hS1))) (fun e => ?_) (fun e => ?_)
    · have e' := of_decide_eq_true e
      rw [List.length_map] at e'
      obtain ⟨n, hn⟩ : ∃ n, ns[a.toNat]? = some n := ⟨_, List.getElem?_eq_getElem (by omega)⟩
      have hat : atI (ns.map V.int) (a + 1 - 1) = some (.int n) := by
        rw [show a + 1 - 1 = ((a.toNat : Nat) : Int) by omega]
        exact atI_nat (by rw [List.getElem?_map, hn] <;> rfl)
      walk_at "q"
      refine s_asg (ev_ixL (ev_ixL (ev_var rfl) ev_c (SqL.of hd1) (atI_nat (j := 0) rfl)) (ev_sub (e1 rfl hd1) ev_c) hS1 hat) ?_
      walk_at "q"
      have hv : ∃ z : Int, Ev (tIf (tTest (tOp rGeI (tVar 3) (tOp rPowI (tC (.int 10)) (tC (.int 18))))) (tOp rFdivI (tVar 3) (tVar 1)) (tC (.int 0))) ((start ["_law_dice_here", "_law_many", "_law_found", "_law_cell_here"] [.ref d, .int m]).set 3 (some (.int n))) (upd H d (.lst [.ref sc, .int (a + 1), .int b, .int c])) (.int z) := by
        refine ⟨if (10 : Int) ^ (18 : Int).toNat ≤ n then n / (m : Int) else 0, ?_⟩
        refine ev_if (et_test (ev_ge (ev_var rfl) (ev_pow ev_c ev_c ⟨by decide, by decide, by decide⟩))) (fun e => ?_) (fun e => ?_)
        · rw [if_pos (of_decide_eq_true e)]
          exact ev_fdiv (ev_var rfl) (ev_var rfl) (cdiv hm hm2)
        · rw [if_neg (of_decide_eq_false e)]
          exact ev_c
      obtain ⟨z, hz⟩ := hv
      refine s_setL (i := 3) (j := 3) hz (ev_var rfl) ev_c hd1 rfl ?_
      obtain ⟨r, er, hr⟩ := modN (i := n) hm
      rw [upd_upd]
      dsimp only
      exact s_ret (ev_is (ev_mod (ev_var rfl) (ev_var rfl) (by omega)) (by rw [er])) (q r _ hr (chg_put hd) (.put hS hd (by omega)))
    · dsimp only [tNext]
      walk_at "q"
      refine s_setL (i := 2) (j := 2) (ev_mod (ev_mul (e2 rfl hd1) ev_c (.inr ⟨by decide, by decide⟩)) ev_c (by decide)) (ev_var rfl) ev_c hd1 rfl ?_
      rw [upd_upd]
      have hd2 : upd H d (.lst [.ref sc, .int (a + 1), .int (b * 48271 % 2147483647), .int c]) d = some (.lst [.ref sc, .int (a + 1), .int (b * 48271 % 2147483647), .int c]) := upd_same
      show ({ nx := _, rt := Q : Ends }).nx _ (upd H d (.lst [.ref sc, .int (a + 1), .int (b * 48271 % 2147483647), .int c]))
      obtain ⟨r, er, hr⟩ := modN (i := b * 48271 % 2147483647 / 7) hm
      dsimp only
      exact s_ret (ev_is (ev_mod (ev_fdiv (e2 rfl hd2) ev_c ⟨by decide, by decide⟩) (ev_var rfl) (by omega)) (by rw [er])) (q r _ hr (chg_put hd) (.put hS hd (by omega)))
end SS

set_option Elab.async false
set_option linter.all false
set_option maxRecDepth 100000
set_option maxHeartbeats 4000000
namespace SS
open PySem L2
local macro_rules | `(tactic| walk_at "q") => `(tactic| ((try dsimp only); refine s_seq ?_))

/-- a draw -/
theorem s_next {Z : Cs} {H : Hp} {s : L2.St} {n d : Nat} {m : Nat} {tm : TE} {Q : VK} (h : s[n]? = some (some (.ref d))) (x : DiceAt Z.K H d) (hm : Ev tm s H (.int m)) (m1 : 0 < m) (m2 : m < 1073741824)
    (k : ∀ (r : Nat) H', r < m → Chg (Dc d) H H' → DiceAt Z.K H' d → Q (.int r) H') : tCall (sp_L_next Z) [] E0 (tCons (tVar n) (tCons tm tNil)) s H Q :=
  s_call (ea_cons (ev_var h) (ea_cons hm ea_nil)) ⟨d, m, rfl, x, m1, m2, k⟩
theorem ev_N {H : Hp} {s : L2.St} (k : Nat) {i : Int} (e : i = (k : Int)) : Ev (tC (.int i)) s H (.int (k : Int)) := by rw [e]; exact ev_c
theorem chg_new {H H' : Hp} {F : Addr → Prop} {p : Addr} {o : HO} (c : Chg F H H') (hp : H' p = none) : Chg F H (upd H' p o) := c.trans (Chg.same (Same.new hp))
/-- a list that is filled meanwhile -/
theorem chg_fill {H H' : Hp} {F : Addr → Prop} {D : Addr} {o : HO} (c : Chg F H H') (h : H D = none) : Chg F H (upd H' D o) :=
  ⟨fun b u e n => by rw [upd_ne (ne_of_none e h)]; exact c.keep b u e n, fun b u e s => by rw [upd_ne (ne_of_none e h)]; exact c.fix_ b u e s⟩
theorem DiceAt.fill {K : PySem.W.Frag} {H' : Hp} {d D : Addr} {xs : List V} {o : HO} (x : DiceAt K H' d) (hD : H' D = some (.lst xs)) (n : D ≠ d) : DiceAt K (upd H' D o) d := x.chg (chg_put hD) fun z => n z.symm
theorem Chg.free' {F : Addr → Prop} {H H' : Hp} (c : Chg F H H') {b : Addr} (n : ¬ F b) (h : H' b = none) : H b = none := by
  cases z : H b with
  | none => rfl
  | some o =>
    have := c.keep b o z n
    rw [h] at this
    cases this
theorem pure_L_deed {Z : Cs} (vs : List V) (H : Hp) (Q : VK) (E : XK) (h : sp_L_deed Z vs H Q E) : t_L_deed Z { nx := fun _ H' => Q .non H', rt := Q } (start ["_law_d"] vs) H := by
  obtain ⟨d, rfl, x, q⟩ := h
  unfold t_L_deed
  walk_at "q"
  refine s_if_of (t_test_of (t_op_of (s_next rfl x (ev_N 3 rfl) (by decide) (by decide) fun r H1 hr c1 x1 => ?_)))
  refine ⟨rfl, _, rfl, ?_⟩
  cases e : decide (V.int (r : Int) = V.int 1) with
  | true =>
    refine iteT (s_ret_of (t_tup_of (t_cons_of (ev_c _ (t_cons_of (s_next rfl x1 (ev_N 100 rfl) (by decide) (by decide) fun z H2 hz c2 x2 => ?_))))))
    exact ⟨by show 2 ≤ sizeLine; decide, fun p hp => q _ (.push z) _ (chg_new (c1.trans c2) hp) (x2.same (Same.new hp)) ⟨p, rfl, upd_same⟩ ⟨by omega, by omega⟩⟩
  | false =>
    refine iteF ?_
    dsimp only [tNext]
    exact e_tup (ea_cons ev_c ea_nil) (by show 1 ≤ 1000; decide) fun p hp => q _ .pop _ (chg_new c1 hp) (x1.same (Same.new hp)) ⟨p, rfl, upd_same⟩ trivial
theorem pure_L_values {Z : Cs} (vs : List V) (H : Hp) (Q : VK) (E : XK) (h : sp_L_values Z vs H Q E) : t_L_values Z { nx := fun _ H' => Q .non H', rt := Q } (start ["_law_d", "_law_most", "_law_k"] vs) H := by
  obtain ⟨d, m, rfl, x, hm, q⟩ := h
  unfold t_L_values
  refine s_ret_of (e_lcRX (fun n H1 => n < m + 1 ∧ Chg (Dc d) H H1 ∧ DiceAt Z.K H1 d) (fun R hR => s_next (m := m + 1) rfl x (ev_is (ev_add (ev_var rfl) ev_c) rfl) (by omega) (by omega) fun r H1 hr c1 x1 => hR r H1 ⟨hr, c1, x1⟩) ?_)
  rintro n H1 ⟨hn, c1, x1⟩
  refine e_lcR ev_c (by omega) (fun D i H' => Chg (Dc d) H1 H' ∧ DiceAt Z.K H' d ∧ ∃ ns : List Int, ns.length = i ∧ (∀ v ∈ ns, okVal v) ∧ H' D = some (.lst (ns.map V.int)))
    (fun D hD => ⟨Chg.same (Same.new hD), x1.same (Same.new hD), [], rfl, (by simp), upd_same⟩) (fun D i H' hi hD p => ?_) (fun D H' hD p => ?_)
  · obtain ⟨c2, x2, ns, rfl, hv, hl⟩ := p
    have nD := x1.ne hD
    refine ⟨rfl, et_yes _ (iteT (s_next rfl x2 (ev_N 100 rfl) (by decide) (by decide) fun r H2 hr c3 x3 => ?_))⟩
    have hl3 := c3.ne hl nD
    refine ⟨_, hl3, by rw [List.length_map]; exact Nat.lt_of_lt_of_le hi (Nat.le_trans (by omega : n ≤ 1001) (by decide)), chg_fill (c2.trans c3) hD, x3.fill hl3 nD, ns ++ [(r : Int)], by simp, ?_, ?_⟩
    · intro v hv'
      rcases List.mem_append.mp hv' with z | z
      · exact hv v z
      · have e : v = (r : Int) := by simpa using z
        rw [e]
        exact ⟨by omega, by omega⟩
    · rw [upd_same, List.map_append]
      rfl
  · obtain ⟨c2, x2, ns, hn2, hv, hl⟩ := p
    exact q D ns H' (c1.free' (x1.ne hD) hD) (c1.trans c2) x2 hl (by omega) hv
theorem rising_snoc : ∀ {l : List Nat} {i : Nat}, rising l → (∀ h ∈ l, h < i) → rising (l ++ [i])
  | [], i, _, _ => trivial
  | [a], i, _, h => ⟨h a (by simp), trivial⟩
  | a :: b :: l, i, hr, h => ⟨hr.1, rising_snoc (l := b :: l) hr.2 fun x hx => h x (List.mem_cons_of_mem _ hx)⟩
theorem pure_L_rule {Z : Cs} (vs : List V) (H : Hp) (Q : VK) (E : XK) (h : sp_L_rule Z vs H Q E) : t_L_rule Z { nx := fun _ H' => Q .non H', rt := Q } (start ["_law_d", "_law_many", "_law_kind", "_law_hand"] vs) H := by
  obtain ⟨d, many, rfl, x, hm, q⟩ := h
  unfold t_L_rule
  walk_at "q"
  refine s_next rfl x (ev_N 4 rfl) (by decide) (by decide) fun kind H1 hk c1 x1 => ?_
  show ({ nx := _, rt := Q : Ends }).nx _ _
  walk_at "q"
  refine s_if (et_test (ev_lt (ev_var rfl) ev_c)) (fun e => ?_) (fun e => ?_)
  · refine s_ret_of (t_tup_of (t_cons_of (ev_c _ (t_cons_of (t_op_of (ev_c _ (t_call_of (t_cons_of (ev_var rfl _ (t_cons_of (t_op_of (e_lst (ea_cons ev_c (ea_cons ev_c ea_nil)) (by show 2 ≤ 1000; decide) fun l hl => ?_))))))))))))
    have x2 := x1.same (Same.new (o := .lst [.int 3, .int 15]) hl)
    refine s_next rfl x2 (ev_N 2 rfl) (by decide) (by decide) fun r H2 hr c2 x3 => ?_
    have hl2 := c2.ne (upd_same (H := H1) (a := l) (o := .lst [.int 3, .int 15])) (x1.ne hl)
    obtain ⟨b, hb, hat⟩ : ∃ b : Nat, (1 ≤ b ∧ b ≤ 15) ∧ atI [V.int 3, V.int 15] (r : Int) = some (.int b) := by
      have : r = 0 ∨ r = 1 := by omega
      rcases this with rfl | rfl
      · exact ⟨3, by decide, rfl⟩
      · exact ⟨15, by decide, rfl⟩
    refine ⟨l, _, _, _, rfl, rfl, SqL.of hl2, hat, ?_⟩
    refine ⟨d, b, rfl, x3, by omega, by omega, fun z H3 hz c3 x4 => ?_⟩
    refine ⟨1, z, rfl, rfl, by show 2 ≤ sizeLine; decide, fun p hp => ?_⟩
    refine q p (.counts (1 + z)) _ (chg_new (((c1.trans (Chg.same (Same.new hl))).trans c2).trans c3) hp) (x4.same (Same.new hp)) ?_ ⟨by omega, by omega⟩
    show upd _ _ _ _ = _
    rw [upd_same]
    rfl
  · dsimp only [tNext]
    walk_at "q"
    refine s_if (et_test (ev_eq (ev_var rfl) ev_c rfl)) (fun e => ?_) (fun e => ?_)
    · refine s_ret_of (t_tup_of (t_cons_of (ev_c _ (t_cons_of (t_cb_of (t_cons_of ?_))))))
      refine e_lcR (ev_var rfl) (by omega) (fun D i H' => Chg (Dc d) H1 H' ∧ DiceAt Z.K H' d ∧ ∃ hs : List Nat, (∀ h ∈ hs, h < i) ∧ rising hs ∧ hs.length ≤ i ∧ H' D = some (.lst (hs.map natV)))
        (fun D hD => ⟨Chg.same (Same.new hD), x1.same (Same.new hD), [], (by simp), trivial, Nat.le_refl _, upd_same⟩) (fun D i H' hi hD p => ?_) (fun D H' hD p => ?_)
      · obtain ⟨c2, x2, hs, h1, h2, h3, hl⟩ := p
        have nD := x1.ne hD
        refine ⟨rfl, t_test_of (t_op_of (s_next rfl x2 (ev_N 2 rfl) (by decide) (by decide) fun r H2 hr c3 x3 => ?_))⟩
        have hl3 := c3.ne hl nD
        refine ⟨rfl, _, rfl, ?_⟩
        cases e : decide (V.int (r : Int) = V.int 1) with
        | true =>
          refine iteT (ev_var rfl _ ⟨_, hl3, by rw [List.length_map]; exact Nat.lt_of_le_of_lt h3 (Nat.lt_of_lt_of_le hi (Nat.le_trans hm (by decide))), chg_fill (c2.trans c3) hD, x3.fill hl3 nD, hs ++ [i], ?_, ?_, by simp; omega, ?_⟩)
          · intro h hh
            rcases List.mem_append.mp hh with z | z
            · have := h1 h z; omega
            · have e : h = i := by simpa using z
              omega
          · exact rising_snoc h2 h1
          · rw [upd_same, List.map_append]
            rfl
        | false => exact iteF ⟨c2.trans c3, x3, hs, fun h hh => by have := h1 h hh; omega, h2, by omega, hl3⟩
      · obtain ⟨c2, x2, hs, h1, h2, h3, hl⟩ := p
        refine ⟨D, _, rfl, .inl ⟨SqL.of hl, fun t ht => ?_⟩⟩
        refine ⟨by show 2 ≤ sizeLine; decide, fun p hp => ?_⟩
        refine q p (.marks hs) _ (chg_new (chg_new (c1.trans c2) ht) hp) ((x2.same (Same.new ht)).same (Same.new hp)) ⟨t, upd_same, ?_⟩ ⟨h1, h2, by omega⟩
        exact Same.new hp _ _ upd_same
    · dsimp only [tNext]
      exact e_tup (ea_cons ev_c ea_nil) (by show 1 ≤ 1000; decide) fun p hp => q p .keeps _ (chg_new c1 hp) (x1.same (Same.new hp)) upd_same trivial
end SS

set_option Elab.async false
set_option linter.all false
set_option maxRecDepth 100000
set_option maxHeartbeats 4000000
namespace SS
open PySem L2
local macro_rules | `(tactic| walk_at "q") => `(tactic| ((try dsimp only); refine s_seq ?_))

theorem s_deed {Z : Cs} {H : Hp} {s : L2.St} {n d : Nat} {Q : VK} (h : s[n]? = some (some (.ref d))) (x : DiceAt Z.K H d) (k : ∀ v (e : Deed) H', Chg (Dc d) H H' → DiceAt Z.K H' d → DeedAt H' v e → okDeed e → Q v H') :
    tCall (sp_L_deed Z) [] E0 (tCons (tVar n) tNil) s H Q := s_call (ea_cons (ev_var h) ea_nil) ⟨d, rfl, x, k⟩
/-- programs that stand: lists of deeds, none of them is the dice -/
theorem ProgAt.ne {K : PySem.W.Frag} {H : Hp} {d : Addr} {q : Addr} {us : List V} {ds : List Deed} (x : DiceAt K H d) (h : H q = some (.lst us)) (hd : All2 (DeedAt H) us ds) : q ≠ d := by
  obtain ⟨sc, ns, a, b, c, h1, _⟩ := x
  intro e
  rw [e, h1] at h
  cases h
  cases hd with
  | cons r t => cases t with
    | cons r2 t2 =>
      obtain ⟨q2, e2, _⟩ := r2
      cases e2
theorem ProgAt.dice {K : PySem.W.Frag} {H H' : Hp} {d : Addr} {v : V} {ds : List Deed} (c : Chg (Dc d) H H') (x : DiceAt K H d) (h : ProgAt H v ds) : ProgAt H' v ds := by
  obtain ⟨q, us, rfl, h1, h2⟩ := h
  exact ⟨q, us, rfl, c.ne h1 (ProgAt.ne x h1 h2), h2.mono fun _ _ => DeedAt.mono c.tup⟩
theorem PgAt.ne {K : PySem.W.Frag} {H : Hp} {d l : Addr} {us : List V} {ps : List (List Deed)} (x : DiceAt K H d) (h : H l = some (.lst us)) (hd : All2 (ProgAt H) us ps) : l ≠ d := by
  obtain ⟨sc, ns, a, b, c, h1, _⟩ := x
  intro e
  rw [e, h1] at h
  cases h
  cases hd with
  | cons r t => cases t with
    | cons r2 t2 =>
      obtain ⟨q2, us, e2, _⟩ := r2
      cases e2
theorem PgAt.dice {K : PySem.W.Frag} {H H' : Hp} {d l : Addr} {ps : List (List Deed)} (c : Chg (Dc d) H H') (x : DiceAt K H d) (h : PgAt H l ps) : PgAt H' l ps := by
  obtain ⟨us, h1, h2⟩ := h
  exact ⟨us, c.ne h1 (PgAt.ne x h1 h2), h2.mono fun _ _ => ProgAt.dice c x⟩
theorem ProgAt.same {H H' : Hp} {v : V} {ds : List Deed} (c : Same H H') (h : ProgAt H v ds) : ProgAt H' v ds := by
  obtain ⟨q, us, rfl, h1, h2⟩ := h
  exact ⟨q, us, rfl, c _ _ h1, h2.mono fun _ _ => DeedAt.mono fun b xs e => c _ _ e⟩
theorem PgAt.same {H H' : Hp} {l : Addr} {ps : List (List Deed)} (c : Same H H') (h : PgAt H l ps) : PgAt H' l ps := by
  obtain ⟨us, h1, h2⟩ := h
  exact ⟨us, c _ _ h1, h2.mono fun _ _ => ProgAt.same c⟩
theorem All2.reverse {α β : Type} {R : α → β → Prop} : ∀ {l m}, All2 R l m → All2 R l.reverse m.reverse
  | _, _, .nil => .nil
  | _, _, .cons r t => by
    rw [List.reverse_cons, List.reverse_cons]
    exact All2.snoc r (All2.reverse t)
theorem pure_L_weaving {Z : Cs} (vs : List V) (H : Hp) (Q : VK) (E : XK) (h : sp_L_weaving Z vs H Q E) : t_L_weaving Z { nx := fun _ H' => Q .non H', rt := Q } (start ["_law_d", "_law_many", "_law_most", "_law_weaving_here", "_law_k"] vs) H := by
  obtain ⟨d, many, most, rfl, x, h1, h2, h3, h4, q⟩ := h
  unfold t_L_weaving
  walk_at "q"
  refine s_asg_of (e_lst ea_nil (by show 0 ≤ 1000; decide) fun l hl => ?_)
  have x1 := x.same (Same.new (o := .lst []) hl)
  show ({ nx := _, rt := Q : Ends }).nx _ _
  walk_at "q"
  refine s_forRX (fun n H1 => n < most ∧ Chg (Dc d) (upd H l (.lst [])) H1 ∧ DiceAt Z.K H1 d) (fun R hR => s_next rfl x1 (ev_var rfl) (by omega) (by omega) fun r H1 hr c1 x1 => hR r H1 ⟨hr, c1, x1⟩) ?_
  rintro n H1 ⟨hn, c1, x2⟩
  have hl1 := c1.ne (upd_same (H := H) (a := l) (o := .lst [])) (x.ne hl)
  refine s_forR ev_c (by omega) (fun i s' H' => ∃ (lw : Addr) (w : List Nat) (k : Option V), s' = [some (.ref d), some (.int many), some (.int most), some (.ref lw), k] ∧ H lw = none ∧ Chg (Dc d) H H' ∧ DiceAt Z.K H' d ∧ H' lw = some (.lst (w.map natV)) ∧ (∀ h ∈ w, h < many) ∧ w.length ≤ 5 * i)
    ⟨l, [], none, rfl, hl, (Chg.same (Same.new hl)).trans c1, x2, hl1, by simp, by simp⟩ ?_ ?_
  · rintro i s' H' hi ⟨lw, w, k, rfl, hlw, c2, x3, hw, hh, hlen⟩
    refine s_asg_of (t_op_of (ev_var rfl _ (t_op_of (t_lst_of (t_cons_of (s_next rfl x3 (ev_var rfl) h1 (by omega) fun r H2 hr c3 x4 => ?_))))))
    refine ⟨by show 1 ≤ sizeLine; decide, fun l2 hl2 => ?_⟩
    have x5 := x4.same (Same.new (o := .lst [.int r]) hl2)
    refine t_op_of (ev_c _ (s_next rfl x5 (ev_N 5 rfl) (by decide) (by decide) fun z H3 hz c4 x6 => ?_))
    have e1 := c4.ne (upd_same (H := H2) (a := l2) (o := .lst [.int r])) (x4.ne hl2)
    refine ⟨1, z, rfl, rfl, ?_⟩
    refine ⟨l2, 1 + z, _, rfl, rfl, e1, by omega, by omega, ?_, fun l3 hl3 => ?_⟩
    · show 1 * (1 + (z : Int)).toNat ≤ sizeLine
      exact Nat.le_trans (by omega : 1 * (1 + (z : Int)).toNat ≤ 1000) (by decide)
    have nlw : lw ≠ d := x.ne hlw
    have w1 := c3.ne hw nlw
    have w2 := Same.new (o := .lst [.int r]) hl2 _ _ w1
    have w3 := c4.ne w2 nlw
    have w4 := Same.new (o := .lst (List.replicate (1 + (z : Int)).toNat [V.int r]).flatten) hl3 _ _ w3
    have erep : (List.replicate (1 + (z : Int)).toNat [V.int (r : Int)]).flatten = (List.replicate (1 + z) r).map natV := by
      rw [show (1 + (z : Int)).toNat = 1 + z by omega]
      induction (1 + z) with
      | zero => rfl
      | succ n ih => rw [List.replicate_succ, List.flatten_cons, ih, List.replicate_succ]; rfl
    refine ⟨lw, l3, _, _, rfl, rfl, w4, upd_same, ?_, fun l4 hl4 => ?_⟩
    · rw [erep, List.length_map, List.length_map, List.length_replicate]
      exact Nat.le_trans (by omega : w.length + (1 + z) ≤ 10000) (by decide)
    have cc : Chg (Dc d) H (upd H3 l3 (.lst (List.replicate (1 + (z : Int)).toNat [V.int r]).flatten)) := chg_new (((c2.trans c3).trans (Chg.same (Same.new hl2))).trans c4) hl3
    have x7 := x6.same (Same.new (o := .lst (List.replicate (1 + (z : Int)).toNat [V.int r]).flatten) hl3)
    refine ⟨l4, w ++ List.replicate (1 + z) r, _, rfl, cc.free' (x7.ne hl4) hl4, chg_new cc hl4, x7.same (Same.new hl4), ?_, ?_, ?_⟩
    · rw [upd_same, erep, List.map_append]
    · intro y hy
      rcases List.mem_append.mp hy with z | z
      · exact hh y z
      · have e := List.eq_of_mem_replicate z
        omega
    · rw [List.length_append, List.length_replicate]
      omega
  · rintro s' H' ⟨lw, w, k, rfl, hlw, c2, x3, hw, hh, hlen⟩
    exact s_ret (ev_var rfl) (q lw w H' hlw c2 x3 hw hh (by omega))
theorem natN (n : Nat) : V.int (n : Int) = natV n := rfl
theorem All2.mem {α β : Type} {R : α → β → Prop} {a : α} : ∀ {l m}, All2 R l m → a ∈ l → ∃ b, R a b
  | _, _, .nil, h => by cases h
  | _, _, .cons r t, h => by
    rcases List.mem_cons.mp h with z | z
    · exact ⟨_, by rw [z]; exact r⟩
    · exact All2.mem t z
/-- a list of deeds is put anew -/
theorem ProgAt.put {H : Hp} {l q : Addr} {us vs : List V} {ds : List Deed} (hl : H l = some (.lst vs)) (h : H q = some (.lst us)) (hd : All2 (DeedAt H) us ds) (n : q ≠ l) {ws : List V} : ProgAt (upd H l (.lst ws)) (.ref q) ds :=
  ⟨q, us, rfl, by rw [upd_ne n]; exact h, hd.mono fun _ _ => DeedAt.mono fun b xs e => by rw [upd_ne (fun z => by rw [z, hl] at e; cases e)]; exact e⟩
theorem pure_L_programs {Z : Cs} (vs : List V) (H : Hp) (Q : VK) (E : XK) (h : sp_L_programs Z vs H Q E) : t_L_programs Z { nx := fun _ H' => Q .non H', rt := Q } (start ["_law_d", "_law_hands", "_law_deeds", "_law_rows", "_law_k", "_law_hand"] vs) H := by
  obtain ⟨d, hn, dn, rfl, x, h1, h2, h3, q⟩ := h
  unfold t_L_programs
  -- the second way: programs drawn row by row
  have rows : ∀ (D0 : Ends) H1, Chg (Dc d) H H1 → DiceAt Z.K H1 d → D0.rt = Q →
      tRet (tLc (iRng1 (tCons (tOp rAddI (tC (.int 1)) (tCall (sp_L_next Z) [] E0 (tCons (tVar 0) (tCons (tVar 1) tNil)))) tNil)) (gName 5) tYes (tLc (iRng1 (tCons (tCall (sp_L_next Z) [] E0 (tCons (tVar 0) (tCons (tOp rAddI (tVar 2) (tC (.int 1))) tNil))) tNil)) (gName 4) tYes (tCall (sp_L_deed Z) [] E0 (tCons (tVar 0) tNil)) [4]) [5])
        D0 (start ["_law_d", "_law_hands", "_law_deeds", "_law_rows", "_law_k", "_law_hand"] [.ref d, .int hn, .int dn]) H1 := by
    intro D0 H1 c1 x1 eD
    refine s_ret_of ?_
    rw [eD]
    refine e_lcRX (fun n H2 => (1 ≤ n ∧ n ≤ hn) ∧ Chg (Dc d) H1 H2 ∧ DiceAt Z.K H2 d) (fun R hR => t_op_of (ev_c _ (s_next rfl x1 (ev_var rfl) (by omega) (by omega) fun r H2 hr c2 x2 => ⟨1, r, rfl, rfl, ?_⟩))) ?_
    · show R (.int ((1 : Int) + (r : Int))) H2
      rw [show (1 : Int) + (r : Int) = ((1 + r : Nat) : Int) by omega]
      exact hR (1 + r) H2 ⟨by omega, c2, x2⟩
    rintro n H2 ⟨hnn, c2, x2⟩
    refine e_lcR ev_c (by omega) (fun D i H' => Chg (Dc d) H2 H' ∧ DiceAt Z.K H' d ∧ ∃ (us : List V) (ps : List (List Deed)), ps.length = i ∧ H' D = some (.lst us) ∧ All2 (ProgAt H') us ps ∧ (∀ p ∈ ps, p.length ≤ 4) ∧ (∀ p ∈ ps, ∀ e ∈ p, okDeed e))
      (fun D hD => ⟨Chg.same (Same.new hD), x2.same (Same.new hD), [], [], rfl, upd_same, .nil, by simp, by simp⟩) (fun D i H' hi hD p => ?_) (fun D H' hD p => ?_)
    · obtain ⟨c3, x3, us, ps, rfl, hl, hu, hp4, hpd⟩ := p
      have nD := x2.ne hD
      refine ⟨rfl, et_yes _ (iteT ?_)⟩
      refine e_lcRX (fun m H3 => m < dn + 1 ∧ Chg (Dc d) H' H3 ∧ DiceAt Z.K H3 d) (fun R hR => s_next (m := dn + 1) rfl x3 (ev_is (ev_add (ev_var rfl) ev_c) rfl) (by omega) (by omega) fun r H3 hr c4 x4 => hR r H3 ⟨hr, c4, x4⟩) ?_
      rintro m H3 ⟨hm, c4, x4⟩
      refine e_lcR ev_c (by omega) (fun D2 j H4 => Chg (Dc d) H3 H4 ∧ DiceAt Z.K H4 d ∧ ∃ (vs : List V) (ds : List Deed), ds.length = j ∧ H4 D2 = some (.lst vs) ∧ All2 (DeedAt H4) vs ds ∧ (∀ e ∈ ds, okDeed e))
        (fun D2 hD2 => ⟨Chg.same (Same.new hD2), x4.same (Same.new hD2), [], [], rfl, upd_same, .nil, by simp⟩) (fun D2 j H4 hj hD2 p => ?_) (fun D2 H4 hD2 p => ?_)
      · obtain ⟨c5, x5, vs, ds, rfl, hl2, hv, hd⟩ := p
        have nD2 := x4.ne hD2
        refine ⟨rfl, et_yes _ (iteT (s_deed rfl x5 fun v e H5 c6 x6 hve he => ?_))⟩
        have hl3 := c6.ne hl2 nD2
        have hlen := hv.length
        refine ⟨vs, hl3, by rw [hlen]; exact Nat.lt_of_lt_of_le (by omega : ds.length < 1000) (by decide), chg_fill (c5.trans c6) hD2, x6.fill hl3 nD2, vs ++ [v], ds ++ [e], by simp, upd_same, ?_, ?_⟩
        · have tup : Tups H5 (upd H5 D2 (.lst (vs ++ [v]))) := fun b xs e => by
            rw [upd_ne (fun z => by rw [z, hl3] at e; cases e)]
            exact e
          exact (hv.mono fun _ _ => DeedAt.mono fun b xs e => tup _ _ (c6.tup _ _ e)).snoc (hve.mono tup)
        · intro y hy
          rcases List.mem_append.mp hy with z | z
          · exact hd y z
          · have e' : y = e := by simpa using z
            rw [e']
            exact he
      · obtain ⟨c5, x5, vs, ds, hds, hl2, hv, hd⟩ := p
        have hlD := (c4.trans c5).ne hl nD
        have pr : ProgAt H4 (.ref D2) ds := ⟨D2, vs, rfl, hl2, hv⟩
        have nDD2 : D2 ≠ D := by
          have := c4.ne hl nD
          exact fun e => by rw [e, this] at hD2; cases hD2
        have hul := hu.length
        refine ⟨us, hlD, by rw [hul]; exact Nat.lt_of_lt_of_le (by omega : ps.length < 1000) (by decide), chg_fill ((c3.trans c4).trans c5) hD, x5.fill hlD nD, us ++ [.ref D2], ps ++ [ds], by simp, upd_same, ?_, ?_, ?_⟩
        · have hu4 : All2 (ProgAt H4) us ps := hu.mono fun _ _ => ProgAt.dice (c4.trans c5) x3
          have stepD : ∀ v ds, ProgAt H4 v ds → v ≠ .ref D → ProgAt (upd H4 D (.lst (us ++ [.ref D2]))) v ds := by
            rintro v ds ⟨q, vs, rfl, a1, a2⟩ nv
            have nq : q ≠ D := fun z => nv (by rw [z])
            exact ⟨q, vs, rfl, by rw [upd_ne nq]; exact a1, a2.mono fun _ _ => DeedAt.mono fun b xs e => by rw [upd_ne (fun z => by rw [z, hlD] at e; cases e)]; exact e⟩
          have main : ∀ {us' : List V} {ps' : List (List Deed)}, All2 (ProgAt H4) us' ps' → All2 (ProgAt H') us' ps' → (∀ u ∈ us', u ≠ .ref D) → All2 (ProgAt (upd H4 D (.lst (us ++ [.ref D2])))) us' ps' := by
            intro us' ps' a1
            induction a1 with
            | nil => intro _ _; exact .nil
            | cons r t ih =>
              intro a2 hn
              cases a2 with
              | cons r2 t2 => exact .cons (stepD _ _ r (hn _ List.mem_cons_self)) (ih t2 fun u hu => hn u (List.mem_cons_of_mem _ hu))
          have noD : ∀ u ∈ us, u ≠ .ref D := by
            intro u hu' e
            rw [e] at hu'
            obtain ⟨dsD, q2, vs2, e2, a1, a2⟩ := hu.mem hu'
            cases e2
            rw [hl] at a1
            cases a1
            obtain ⟨eD, q3, e3, a3⟩ := a2.mem hu'
            cases e3
            rw [hl] at a3
            cases a3
          exact (main hu4 hu noD).snoc (stepD _ _ pr fun z => nDD2 (V.ref.inj z))
        · intro y hy
          rcases List.mem_append.mp hy with z | z
          · exact hp4 y z
          · have e' : y = ds := by simpa using z
            rw [e']
            omega
        · intro y hy
          rcases List.mem_append.mp hy with z | z
          · exact hpd y z
          · have e' : y = ds := by simpa using z
            rw [e']
            exact hd
    · obtain ⟨c3, x3, us, ps, hps, hl, hu, hp4, hpd⟩ := p
      exact q D ps H' ((c1.trans c2).free' (x2.ne hD) hD) ((c1.trans c2).trans c3) x3 ⟨us, hl, hu⟩ (by omega) (by omega) hp4 hpd
  walk_at "q"
  by_cases e1 : hn = 1
  · refine s_ifF (et_is (et_and (b := true) (et_test (ev_gt (ev_var rfl) ev_c)) fun e => ?_) ?_) (rows _ H (Chg.refl _ _) x rfl)
    · exact absurd (of_decide_eq_true e) (by omega)
    · rw [decide_eq_false (by omega)]
      rfl
  refine s_if_of ?_
  refine (et_test (ev_is (ev_gt (ev_var rfl) ev_c) (by rw [decide_eq_true (by omega)]))) _ (iteT ?_)
  refine t_test_of (t_op_of (s_next rfl x (ev_N 3 rfl) (by decide) (by decide) fun r H1 hr c1 x1 => ?_))
  refine ⟨rfl, _, rfl, ?_⟩
  cases e : decide (V.int (r : Int) = V.int 2) with
  | false => exact iteF (rows _ H1 c1 x1 rfl)
  | true =>
    refine iteT ?_
    walk_at "q"
    -- the two rows
    refine s_asg_of (t_lst_of (t_cons_of (t_lst_of (t_cons_of (e_tup (ea_cons ev_c ea_nil) (by show 1 ≤ 1000; decide) fun t1 ht1 => ?_)))))
    refine ⟨by show 1 ≤ sizeLine; decide, fun l1 hl1 => ?_⟩
    have f1 : H l1 = none := (chg_new (o := .tup [.str "pop"]) c1 ht1).free' ((x1.same (Same.new (o := .tup [.str "pop"]) ht1)).ne hl1) hl1
    have d1 : DeedAt (upd H1 t1 (.tup [.str "pop"])) (.ref t1) .pop := ⟨t1, rfl, upd_same⟩
    have c2 := chg_new (o := .lst [.ref t1]) (chg_new (o := .tup [.str "pop"]) c1 ht1) hl1
    have x2 := (x1.same (Same.new (o := .tup [.str "pop"]) ht1)).same (Same.new (o := .lst [.ref t1]) hl1)
    have p1 : ProgAt (upd (upd H1 t1 (.tup [.str "pop"])) l1 (.lst [.ref t1])) (.ref l1) [.pop] := ⟨l1, _, rfl, upd_same, .cons (d1.mono fun b xs e => Same.new hl1 _ _ e) .nil⟩
    generalize hG2 : upd (upd H1 t1 (.tup [.str "pop"])) l1 (.lst [.ref t1]) = G2 at c2 x2 p1
    refine t_cons_of (t_lst_of (t_cons_of (e_tup (ea_cons ev_c ea_nil) (by show 1 ≤ 1000; decide) fun t2 ht2 => ?_)))
    refine t_cons_of (e_tup (ea_cons ev_c ea_nil) (by show 1 ≤ 1000; decide) fun t3 ht3 => ?_)
    have d2 : DeedAt (upd (upd G2 t2 (.tup [.str "pop"])) t3 (.tup [.str "pop"])) (.ref t2) .pop := ⟨t2, rfl, Same.new ht3 _ _ upd_same⟩
    have d3 : DeedAt (upd (upd G2 t2 (.tup [.str "pop"])) t3 (.tup [.str "pop"])) (.ref t3) .pop := ⟨t3, rfl, upd_same⟩
    have c3 := chg_new (o := .tup [.str "pop"]) (chg_new (o := .tup [.str "pop"]) c2 ht2) ht3
    have x3 := (x2.same (Same.new (o := .tup [.str "pop"]) ht2)).same (Same.new (o := .tup [.str "pop"]) ht3)
    have p2 := ProgAt.same (Same.new (o := .tup [.str "pop"]) ht3) (ProgAt.same (Same.new (o := .tup [.str "pop"]) ht2) p1)
    generalize hG3 : upd (upd G2 t2 (.tup [.str "pop"])) t3 (.tup [.str "pop"]) = G3 at d2 d3 c3 x3 p2
    refine t_cons_of (t_tup_of (t_cons_of (ev_c _ (t_cons_of (s_next rfl x3 (ev_N 100 rfl) (by decide) (by decide) fun z H4 hz c4 x4 => ?_)))))
    have d2 := d2.mono c4.tup
    have d3 := d3.mono c4.tup
    have p3 := ProgAt.dice c4 x3 p2
    refine ⟨by show 2 ≤ sizeLine; decide, fun t4 ht4 => ?_⟩
    refine ⟨by show 3 ≤ sizeLine; decide, fun l2 hl2 => ?_⟩
    have f2 : H l2 = none := (chg_new (o := .tup [.str "push", .int z]) (c3.trans c4) ht4).free' ((x4.same (Same.new (o := .tup [.str "push", .int z]) ht4)).ne hl2) hl2
    have sm : Same H4 (upd (upd H4 t4 (.tup [.str "push", .int z])) l2 (.lst [.ref t2, .ref t3, .ref t4])) := fun b o e => Same.new hl2 _ _ (Same.new ht4 _ _ e)
    have q2 : ProgAt (upd (upd H4 t4 (.tup [.str "push", .int z])) l2 (.lst [.ref t2, .ref t3, .ref t4])) (.ref l2) [.pop, .pop, .push z] :=
      ⟨l2, _, rfl, upd_same, .cons (d2.mono fun b xs e => sm _ _ e) (.cons (d3.mono fun b xs e => sm _ _ e) (.cons ⟨t4, rfl, Same.new hl2 _ _ upd_same⟩ .nil))⟩
    have c5 := (c3.trans c4).trans (Chg.same (F := Dc d) sm)
    have x5 := x4.same sm
    have p4 := ProgAt.same sm p3
    have n12 : l1 ≠ l2 := by
      obtain ⟨q, us, e, h, _⟩ := p3
      cases e
      exact ne_of_none (Same.new ht4 _ _ h) hl2
    generalize hG5 : upd (upd H4 t4 (.tup [.str "push", .int z])) l2 (.lst [.ref t2, .ref t3, .ref t4]) = G5 at q2 c5 x5 p4
    refine ⟨by show 2 ≤ sizeLine; decide, fun l3 hl3 => ?_⟩
    have c6 := chg_new (o := .lst [.ref l1, .ref l2]) c5 hl3
    have x6 := x5.same (Same.new (o := .lst [.ref l1, .ref l2]) hl3)
    have p5 := ProgAt.same (Same.new (o := .lst [.ref l1, .ref l2]) hl3) p4
    have q3 := ProgAt.same (Same.new (o := .lst [.ref l1, .ref l2]) hl3) q2
    have r3 : upd G5 l3 (.lst [.ref l1, .ref l2]) l3 = some (.lst [.ref l1, .ref l2]) := upd_same
    have n3d : l3 ≠ d := x5.ne hl3
    have n13 : l1 ≠ l3 := by
      obtain ⟨q, us, e, h, _⟩ := p4
      cases e
      exact ne_of_none h hl3
    have n23 : l2 ≠ l3 := by
      obtain ⟨q, us, e, h, _⟩ := q2
      cases e
      exact ne_of_none h hl3
    generalize hG6 : upd G5 l3 (.lst [.ref l1, .ref l2]) = G6 at c6 x6 p5 q3 r3
    show ({ nx := _, rt := Q : Ends }).nx _ G6
    walk_at "q"
    -- one of them gets a deed more
    refine s_drop' (t_bm_of (t_op_of (ev_var rfl _ (s_next rfl x6 (ev_N 2 rfl) (by decide) (by decide) fun w H7 hw c7 x7 => ?_))))
    have p6 := ProgAt.dice c7 x6 p5
    have q4 := ProgAt.dice c7 x6 q3
    have r4 := c7.ne r3 n3d
    have hat : atI [V.ref l1, V.ref l2] (w : Int) = some (.ref (if w = 0 then l1 else l2)) := by
      have : w = 0 ∨ w = 1 := by omega
      rcases this with rfl | rfl <;> rfl
    refine ⟨l3, _, w, _, rfl, rfl, SqL.of r4, hat, ?_⟩
    have ty : ∃ us, H7 (if w = 0 then l1 else l2) = some (.lst us) := by
      obtain ⟨q, us, e, h, _⟩ := p6
      cases e
      obtain ⟨q', us', e', h', _⟩ := q4
      cases e'
      split
      · exact ⟨_, h⟩
      · exact ⟨_, h'⟩
    obtain ⟨us7, hus7⟩ := ty
    refine ⟨.inl ⟨rfl, _, SqL.of hus7⟩, t_cons_of (ev_c _ (t_cons_of (s_deed rfl x7 fun v ed H8 c8 x8 hv8 hed => ?_)))⟩
    have p7 := ProgAt.dice c8 x7 p6
    have q5 := ProgAt.dice c8 x7 q4
    have r5 := c8.ne r4 n3d
    have cc := (c6.trans c7).trans c8
    obtain ⟨a1, us1, ea, hp1, hd1⟩ := p7
    cases ea
    obtain ⟨a2, us2, ea, hp2, hd2⟩ := q5
    cases ea
    -- the list that is changed, and the programs behind it
    have fin : ∀ H9, Chg (Dc d) H H9 → DiceAt Z.K H9 d → H9 l3 = some (.lst [.ref l1, .ref l2]) → (∃ dsA dsB, ProgAt H9 (.ref l1) dsA ∧ ProgAt H9 (.ref l2) dsB ∧ (dsA.length ≤ 4 ∧ dsB.length ≤ 4) ∧ (∀ e ∈ dsA, okDeed e) ∧ ∀ e ∈ dsB, okDeed e) →
        tRet (tStepL Z.K (tVar 3) (tOp (rIxL Z.K) (tLst (tCons (tC (.int 1)) (tCons (tUn rNegI (tC (.int 1))) tNil))) (tCall (sp_L_next Z) [] E0 (tCons (tVar 0) (tCons (tC (.int 2)) tNil))))) { nx := fun _ H' => Q .non H', rt := Q } ((start ["_law_d", "_law_hands", "_law_deeds", "_law_rows", "_law_k", "_law_hand"] [.ref d, .int hn, .int dn]).set 3 (some (.ref l3))) H9 := by
      rintro H9 c9 x9 r9 ⟨dsA, dsB, pA, pB, ⟨lA, lB⟩, okA, okB⟩
      refine s_ret_of (ev_var rfl _ (t_op_of (e_lst (ea_cons ev_c (ea_cons (ev_neg ev_c) ea_nil)) (by show 2 ≤ 1000; decide) fun lk hlk => ?_)))
      have x10 := x9.same (Same.new (o := .lst [.int 1, .int (-1)]) hlk)
      refine s_next rfl x10 (ev_N 2 rfl) (by decide) (by decide) fun y H11 hy c11 x11 => ?_
      have hlk2 := c11.ne (upd_same (H := H9) (a := lk) (o := .lst [.int 1, .int (-1)])) (x9.ne hlk)
      have ck := (chg_new (o := .lst [.int 1, .int (-1)]) c9 hlk).trans c11
      have r11 := c11.ne (Same.new (o := .lst [.int 1, .int (-1)]) hlk _ _ r9) n3d
      have pA' := ProgAt.dice c11 x10 (ProgAt.same (Same.new hlk) pA)
      have pB' := ProgAt.dice c11 x10 (ProgAt.same (Same.new hlk) pB)
      have hk : ∃ k : Int, atI [V.int 1, V.int (-1)] (y : Int) = some (.int k) ∧ (k = 1 ∨ k = -1) := by
        have : y = 0 ∨ y = 1 := by omega
        rcases this with rfl | rfl
        · exact ⟨1, rfl, .inl rfl⟩
        · exact ⟨-1, rfl, .inr rfl⟩
      obtain ⟨k, hat, hk⟩ := hk
      refine ⟨lk, _, _, _, rfl, rfl, SqL.of hlk2, hat, k, rfl, l3, _, k, rfl, rfl, SqL.of r11, hk, fun l hl => ?_⟩
      rcases hk with rfl | rfl
      · rw [if_pos rfl]
        refine q l [dsA, dsB] _ (ck.free' (x11.ne hl) hl) (chg_new ck hl) (x11.same (Same.new hl)) ⟨_, upd_same, .cons (pA'.same (Same.new hl)) (.cons (pB'.same (Same.new hl)) .nil)⟩ (by simp) (by simp; omega) ?_ ?_
        · intro p hp
          simp only [List.mem_cons, List.not_mem_nil, or_false] at hp
          rcases hp with rfl | rfl
          · exact lA
          · exact lB
        · intro p hp
          simp only [List.mem_cons, List.not_mem_nil, or_false] at hp
          rcases hp with rfl | rfl
          · exact okA
          · exact okB
      · rw [if_neg (by decide)]
        refine q l [dsB, dsA] _ (ck.free' (x11.ne hl) hl) (chg_new ck hl) (x11.same (Same.new hl)) ⟨_, upd_same, .cons (pB'.same (Same.new hl)) (.cons (pA'.same (Same.new hl)) .nil)⟩ (by simp) (by simp; omega) ?_ ?_
        · intro p hp
          simp only [List.mem_cons, List.not_mem_nil, or_false] at hp
          rcases hp with rfl | rfl
          · exact lB
          · exact lA
        · intro p hp
          simp only [List.mem_cons, List.not_mem_nil, or_false] at hp
          rcases hp with rfl | rfl
          · exact okB
          · exact okA
    have ok3 : ∀ e ∈ [Deed.pop, .pop, .push z], okDeed e := by
      intro e he
      simp only [List.mem_cons, List.not_mem_nil, or_false] at he
      rcases he with rfl | rfl | rfl
      · trivial
      · trivial
      · exact ⟨by omega, by omega⟩
    have ok1 : ∀ e ∈ [Deed.pop], okDeed e := by
      intro e he
      simp only [List.mem_cons, List.not_mem_nil, or_false] at he
      rw [he]
      trivial
    by_cases w0 : w = 0
    · rw [if_pos w0]
      refine ⟨l1, us1, 0, v, rfl, rfl, hp1, by rw [hd1.length]; decide, by decide, by decide, ?_⟩
      have tup : Tups H8 (upd H8 l1 (.lst (List.take (Int.toNat 0) us1 ++ [v] ++ List.drop (Int.toNat 0) us1))) := fun b xs e => by
        rw [upd_ne (fun z => by rw [z, hp1] at e; cases e)]
        exact e
      refine fin _ (chg_fill cc f1) (x8.fill hp1 (ProgAt.ne x8 hp1 hd1)) (by rw [upd_ne n13.symm]; exact r5) ⟨ed :: [.pop], _, ⟨l1, _, rfl, upd_same, .cons (hv8.mono tup) (hd1.mono fun _ _ => DeedAt.mono tup)⟩, ProgAt.put hp1 hp2 hd2 n12.symm, ⟨by simp, by simp⟩, ?_, ok3⟩
      · intro e he
        rcases List.mem_cons.mp he with z | z
        · rw [z]; exact hed
        · exact ok1 e z
    · rw [if_neg w0]
      refine ⟨l2, us2, 0, v, rfl, rfl, hp2, by rw [hd2.length]; exact (by decide : 3 < sizeLine), by decide, by decide, ?_⟩
      have tup : Tups H8 (upd H8 l2 (.lst (List.take (Int.toNat 0) us2 ++ [v] ++ List.drop (Int.toNat 0) us2))) := fun b xs e => by
        rw [upd_ne (fun z => by rw [z, hp2] at e; cases e)]
        exact e
      refine fin _ (chg_fill cc f2) (x8.fill hp2 (ProgAt.ne x8 hp2 hd2)) (by rw [upd_ne n23.symm]; exact r5) ⟨[.pop], ed :: [.pop, .pop, .push z], ProgAt.put hp2 hp1 hd1 n12, ⟨l2, _, rfl, upd_same, .cons (hv8.mono tup) (hd2.mono fun _ _ => DeedAt.mono tup)⟩, ⟨by simp, by simp⟩, ok1, ?_⟩
      · intro e he
        rcases List.mem_cons.mp he with z | z
        · rw [z]; exact hed
        · exact ok3 e z
end SS

set_option Elab.async false
set_option linter.all false
set_option maxRecDepth 100000
set_option maxHeartbeats 4000000
namespace SS
open PySem L2
local macro_rules | `(tactic| walk_at "q") => `(tactic| ((try dsimp only); refine s_seq ?_))

/-! ### data of what stands on the heap -/
theorem seqT_same {K : PySem.W.Frag} {H H' : Hp} {a : Addr} {xs : List V} (e : Same H H') (h : SqT K H a xs) : SqT K H' a xs := by
  rcases h with (h | ⟨o, h⟩) | h
  · exact .inl (.inl (e _ _ h))
  · exact .inl (.inr ⟨o, e _ _ h⟩)
  · exact .inr h
mutual
theorem dp_same {K : PySem.W.Frag} {H H' : Hp} (c : Same H H') : ∀ (d : PyData) (v : V), Dp K H v d → Dp K H' v d
  | .none, _, h => by cases h; exact .non
  | .bool b, _, h => by cases h; exact .bl b
  | .int i, _, h => by cases h; exact .int i
  | .str x, _, h => by cases h; exact .str x
  | .list ds, _, h => by
    cases h with
    | lst hs ha => exact .lst (c.seq hs) (dpAll_same c ds _ ha)
  | .tuple ds, _, h => by
    cases h with
    | tup hs ha => exact .tup (seqT_same c hs) (dpAll_same c ds _ ha)
  | .dict _, _, h => by cases h
theorem dpAll_same {K : PySem.W.Frag} {H H' : Hp} (c : Same H H') : ∀ (ds : List PyData) (vs : List V), DpAll K H vs ds → DpAll K H' vs ds
  | [], _, h => by cases h; exact .nil
  | d :: ds, _, h => by
    cases h with
    | cons h1 h2 => exact .cons (dp_same c d _ h1) (dpAll_same c ds _ h2)
end
theorem dp_append {K : PySem.W.Frag} {H : Hp} : ∀ {vs ws : List V} {ds es : List PyData}, DpAll K H vs ds → DpAll K H ws es → DpAll K H (vs ++ ws) (ds ++ es)
  | _, _, _, _, .nil, h => h
  | _, _, _, _, .cons a b, h => .cons a (dp_append b h)
theorem dp_take {K : PySem.W.Frag} {H : Hp} : ∀ {vs : List V} {ds : List PyData} (n : Nat), DpAll K H vs ds → DpAll K H (vs.take n) (ds.take n)
  | _, _, 0, _ => by rw [List.take_zero, List.take_zero]; exact .nil
  | _, _, n + 1, .nil => .nil
  | _, _, n + 1, .cons a b => .cons a (dp_take n b)
theorem dp_get {K : PySem.W.Frag} {H : Hp} : ∀ {vs : List V} {ds : List PyData} (n : Nat) {d : PyData}, DpAll K H vs ds → ds[n]? = some d → ∃ v, vs[n]? = some v ∧ Dp K H v d
  | _, _, n, _, .nil, h => by cases n <;> cases h
  | _, _, 0, _, .cons a b, h => by cases h; exact ⟨_, rfl, a⟩
  | _, _, n + 1, _, .cons a b, h => by obtain ⟨v, h1, h2⟩ := dp_get n b (by simpa using h); exact ⟨v, by simpa using h1, h2⟩
theorem dp_of {α : Type} {K : PySem.W.Frag} {H : Hp} {R : V → α → Prop} {f : α → PyData} (g : ∀ v a, R v a → Dp K H v (f a)) : ∀ {vs : List V} {as : List α}, All2 R vs as → DpAll K H vs (as.map f)
  | _, _, .nil => .nil
  | _, _, .cons a b => .cons (g _ _ a) (dp_of g b)
theorem dp_len {K : PySem.W.Frag} {H : Hp} : ∀ {vs : List V} {ds : List PyData}, DpAll K H vs ds → vs.length = ds.length
  | _, _, .nil => rfl
  | _, _, .cons a b => congrArg (· + 1) (dp_len b)
def okD (n : Nat) (d : PyData) : Prop := d.canLay0 = true ∧ d.depth ≤ n
theorem okD.mono {n m : Nat} {d : PyData} (h : okD n d) (l : n ≤ m) : okD m d := ⟨h.1, Nat.le_trans h.2 l⟩
theorem okD_all {n : Nat} : ∀ {ds : List PyData}, (∀ d ∈ ds, okD n d) → PyData.canLayAll0 ds = true ∧ PyData.depthAll ds ≤ n
  | [], _ => by simp [PyData.canLayAll0, PyData.depthAll]
  | d :: ds, h => by
    obtain ⟨h1, h2⟩ := okD_all (ds := ds) fun x hx => h x (List.mem_cons_of_mem _ hx)
    obtain ⟨h3, h4⟩ := h d List.mem_cons_self
    simp only [PyData.canLayAll0, PyData.depthAll]
    exact ⟨by rw [h1, h3]; rfl, by omega⟩
theorem okD_list {n : Nat} {ds : List PyData} (h : ∀ d ∈ ds, okD n d) : okD (n + 1) (.list ds) := by
  obtain ⟨h1, h2⟩ := okD_all h
  exact ⟨by simp only [PyData.canLay0]; exact h1, by simp only [PyData.depth]; omega⟩
theorem okD_tup {n : Nat} {ds : List PyData} (h : ∀ d ∈ ds, okD n d) : okD (n + 1) (.tuple ds) := by
  obtain ⟨h1, h2⟩ := okD_all h
  exact ⟨by simp only [PyData.canLay0]; exact h1, by simp only [PyData.depth]; omega⟩
theorem okD_int (i : Int) : okD 0 (.int i) := ⟨by simp only [PyData.canLay0], by simp only [PyData.depth]; omega⟩
theorem okD_bool (i : Bool) : okD 0 (.bool i) := ⟨by simp only [PyData.canLay0], by simp only [PyData.depth]; omega⟩
theorem okD_none : okD 0 .none := ⟨by simp only [PyData.canLay0], by simp only [PyData.depth]; omega⟩
theorem okD_ints (l : List Int) : okD 1 (.list (l.map PyData.int)) := okD_list fun d h => by
  obtain ⟨i, _, rfl⟩ := List.mem_map.mp h
  exact okD_int i
theorem okD.shaped {n : Nat} {d : PyData} (h : okD n d) (l : n ≤ 64) : SeqAt.shaped d = true := by
  show (d.canLay0 && decide (d.depth ≤ 64)) = true
  rw [h.1, decide_eq_true (Nat.le_trans h.2 l)]
  rfl
theorem okD_strs : okD 0 (.str "takes") ∧ okD 0 (.str "reads") ∧ okD 0 (.str "ends") ∧ okD 0 (.str "links") ∧ okD 0 (.str "marks") ∧ okD 0 (.str "looks") ∧ okD 0 (.str "follows") ∧ okD 0 (.str "exchanges") ∧ okD 0 (.str "misses") ∧ okD 0 (.str "rests") ∧ okD 0 (.str "done") := by
  unfold okD
  decide +kernel
def ansD : Ans → PyData
  | .non => .none
  | .done => .str "done"
  | .val v => .int v
def tellDs : Tell → List PyData
  | .rests => [.str "rests"]
  | .takes c => [.str "takes", .int c]
  | .reads t => [.str "reads", .int t]
  | .ends a => [.str "ends", ansD a]
  | .links t => [.str "links", .int t]
  | .marks c => [.str "marks", .int c]
  | .looks b => [.str "looks", .bool b]
  | .follows n => [.str "follows", .int n]
  | .exchanges n => [.str "exchanges", .int n]
  | .misses => [.str "misses"]
def tellD (t : Tell) : PyData := .tuple (tellDs t)
theorem ansDp {K : PySem.W.Frag} {H : Hp} : ∀ a : Ans, Dp K H (ansV a) (ansD a)
  | .non => .non
  | .done => .str _
  | .val v => .int v
theorem tellDsDp {K : PySem.W.Frag} {H : Hp} : ∀ t : Tell, DpAll K H (tellVs t) (tellDs t)
  | .rests => .cons (.str _) .nil
  | .takes c => .cons (.str _) (.cons (.int _) .nil)
  | .reads c => .cons (.str _) (.cons (.int _) .nil)
  | .ends c => .cons (.str _) (.cons (ansDp _) .nil)
  | .links c => .cons (.str _) (.cons (.int _) .nil)
  | .marks c => .cons (.str _) (.cons (.int _) .nil)
  | .looks c => .cons (.str _) (.cons (.bl _) .nil)
  | .follows c => .cons (.str _) (.cons (.int _) .nil)
  | .exchanges c => .cons (.str _) (.cons (.int _) .nil)
  | .misses => .cons (.str _) .nil
theorem TellAt.dp {K : PySem.W.Frag} {H : Hp} {v : V} {t : Tell} (h : TellAt H v t) : Dp K H v (tellD t) := by
  obtain ⟨q, rfl, h⟩ := h
  exact .tup (SqT.of h) (tellDsDp t)
theorem okD_ans (a : Ans) : okD 0 (ansD a) := by
  cases a
  · exact okD_none
  · exact okD_strs.2.2.2.2.2.2.2.2.2.2
  · exact okD_int _
theorem okD_tell (t : Tell) : okD 1 (tellD t) := by
  obtain ⟨a, b, c, d, e, f, g, h, i, j, k⟩ := okD_strs
  refine okD_tup fun x hx => ?_
  cases t <;> simp only [tellDs, List.mem_cons, List.not_mem_nil, or_false] at hx
  · rw [hx]; exact j
  · rcases hx with rfl | rfl
    · exact a
    · exact okD_int _
  · rcases hx with rfl | rfl
    · exact b
    · exact okD_int _
  · rcases hx with rfl | rfl
    · exact c
    · exact okD_ans _
  · rcases hx with rfl | rfl
    · exact d
    · exact okD_int _
  · rcases hx with rfl | rfl
    · exact e
    · exact okD_int _
  · rcases hx with rfl | rfl
    · exact f
    · exact okD_bool _
  · rcases hx with rfl | rfl
    · exact g
    · exact okD_int _
  · rcases hx with rfl | rfl
    · exact h
    · exact okD_int _
  · rw [hx]; exact i
theorem okD_tells (ts : List Tell) : okD 2 (.list (ts.map tellD)) := okD_list fun d h => by
  obtain ⟨t, _, rfl⟩ := List.mem_map.mp h
  exact okD_tell t
theorem tells_dp {K : PySem.W.Frag} {H : Hp} {us : List V} {ts : List Tell} (h : All2 (TellAt H) us ts) : DpAll K H us (ts.map tellD) := dp_of (R := TellAt H) (f := tellD) (fun _ _ h => h.dp) h
/-- two that are the same are not different -/
theorem ne_same {K : PySem.W.Frag} {x y : V} {d : PyData} {H : Hp} {Q : VK} (h1 : Dp K H x d) (h2 : Dp K H y d) {n : Nat} (s : okD n d) (l : n ≤ 64) (q : Q (.bl false) H) : rNeD K x y H Q := by
  refine ⟨d, d, h1, h2, s.shaped l, s.shaped l, ?_⟩
  rw [SeqAt.eqv_refl d s.1]
  exact q
theorem eq_same {K : PySem.W.Frag} {x y : V} {d : PyData} {H : Hp} {Q : VK} (h1 : Dp K H x d) (h2 : Dp K H y d) {n : Nat} (s : okD n d) (l : n ≤ 64) (q : Q (.bl true) H) : rEqD K x y H Q := by
  refine ⟨d, d, h1, h2, s.shaped l, s.shaped l, ?_⟩
  rw [SeqAt.eqv_refl d s.1]
  exact q
theorem cut_take {xs : List V} (n : Nat) : cutV xs none (some (n : Int)) = xs.take n := by
  unfold cutV
  rw [HT.sIx_none, HT.sIx_nat, List.drop_zero, Nat.sub_zero]
  by_cases h : n ≤ xs.length
  · rw [Nat.min_eq_left h]
  · rw [Nat.min_eq_right (by omega), List.take_length, List.take_of_length_le (by omega)]

/-! ### what is drawn -/
structure CaseAt (Z : Cs) (H : Hp) (lv lp lr lw : Addr) (values : List Int) (ps : List (List Deed)) (r : Rule) (w : List Nat) : Prop where
  hv : H lv = some (.lst (values.map V.int))
  hp : PgAt H lp ps
  hr : RuleAt H lr r
  hw : H lw = some (.lst (w.map natV))
  ok : okIn values ps r
  hh : ∀ h ∈ w, h < ps.length
  wl : w.length ≤ 200
def sp_L_case (Z : Cs) : Sp := fun vs H Q _ => ∃ (d : Addr), vs = [.ref d] ∧ DiceAt Z.K H d ∧
  ∀ t lv lp lr lw values ps r w H', Chg (Dc d) H H' → DiceAt Z.K H' d → H' t = some (.tup [.ref lv, .ref lp, .ref lr, .ref lw]) → CaseAt Z H' lv lp lr lw values ps r w → lv ≠ d → lw ≠ d → Q (.ref t) H'
theorem CaseAt.dice {Z : Cs} {H H' : Hp} {d lv lp lr lw : Addr} {values : List Int} {ps : List (List Deed)} {r : Rule} {w : List Nat} (x : CaseAt Z H lv lp lr lw values ps r w) (c : Chg (Dc d) H H') (y : DiceAt Z.K H d) (n1 : lv ≠ d) (n2 : lw ≠ d) : CaseAt Z H' lv lp lr lw values ps r w :=
  ⟨c.ne x.hv n1, x.hp.dice c y, x.hr.mono c.tup, c.ne x.hw n2, x.ok, x.hh, x.wl⟩
theorem CaseAt.same {Z : Cs} {H H' : Hp} {lv lp lr lw : Addr} {values : List Int} {ps : List (List Deed)} {r : Rule} {w : List Nat} (x : CaseAt Z H lv lp lr lw values ps r w) (c : Same H H') : CaseAt Z H' lv lp lr lw values ps r w :=
  ⟨c _ _ x.hv, x.hp.same c, x.hr.mono fun b xs e => c _ _ e, c _ _ x.hw, x.ok, x.hh, x.wl⟩
theorem PgAt.progs {K : PySem.W.Frag} {H : Hp} {l : Addr} {ps : List (List Deed)} (h : PgAt H l ps) : ProgsAt K H l ps := let ⟨us, h1, h2⟩ := h; ⟨us, SqL.of h1, h2⟩
/-- _law_case: 0 _law_d, 1 _law_values_here, 2 _law_programs_here -/
def t_L_case (Z : Cs) : TS :=
  tSeq (tAsg (tCall (sp_L_values Z) [] E0 (tCons (tVar 0) (tCons (tC (.int 6)) tNil))) (gName 1))
    (tSeq (tAsg (tCall (sp_L_programs Z) [] E0 (tCons (tVar 0) (tCons (tC (.int 3)) (tCons (tC (.int 4)) tNil)))) (gName 2))
    ((tRet (tTup (tCons (tVar 1) (tCons (tVar 2) (tCons (tCall (sp_L_rule Z) [] E0 (tCons (tVar 0) (tCons (tCB (rLen1 Z.K) (tCons (tVar 2) tNil)) tNil))) (tCons (tSl (rSlL Z.K) (tCall (sp_L_weaving Z) [] E0 (tCons (tVar 0) (tCons (tCB (rLen1 Z.K) (tCons (tVar 2) tNil)) (tCons (tC (.int 40)) tNil)))) tNoPart (tPart (tC (.int 200)))) tNil))))))))

theorem pure_L_case {Z : Cs} (vs : List V) (H : Hp) (Q : VK) (E : XK) (h : sp_L_case Z vs H Q E) : t_L_case Z { nx := fun _ H' => Q .non H', rt := Q } (start ["_law_d", "_law_values_here", "_law_programs_here"] vs) H := by
  obtain ⟨d, rfl, x, q⟩ := h
  unfold t_L_case
  walk_at "q"
  refine s_asg_of (s_call (ea_cons (ev_var rfl) (ea_cons (ev_N 6 rfl) ea_nil)) ⟨d, 6, rfl, x, by decide, fun lv values H1 f1 c1 x1 hv l1 ov => ?_⟩)
  show ({ nx := _, rt := Q : Ends }).nx _ _
  have n1 : lv ≠ d := x.ne f1
  walk_at "q"
  refine s_asg_of (s_call (ea_cons (ev_var rfl) (ea_cons (ev_N 3 rfl) (ea_cons (ev_N 4 rfl) ea_nil))) ⟨d, 3, 4, rfl, x1, by decide, by decide, by decide, fun lp ps H2 f2 c2 x2 hp l2 l3 l4 od => ?_⟩)
  show ({ nx := tRet _ _, rt := Q : Ends }).nx _ _
  dsimp only
  have hv2 := c2.ne hv n1
  have lenP : ∀ H', PgAt H' lp ps → ∀ s : L2.St, s[2]? = some (some (.ref lp)) → Ev (tCB (rLen1 Z.K) (tCons (tVar 2) tNil)) s H' (.int ps.length) := fun H' ⟨us, h1, h2⟩ s hs => by
    have := h2.length
    rw [← this]
    exact ev_lenL (ev_var hs) (SqL.of h1)
  refine s_ret_of (t_tup_of (t_cons_of (ev_var rfl _ (t_cons_of (ev_var rfl _ (t_cons_of (s_call (ea_cons (ev_var rfl) (ea_cons (lenP _ hp _ rfl) ea_nil)) ⟨d, ps.length, rfl, x2, by omega, fun lr r H3 c3 x3 hr or => ?_⟩)))))))
  have hv3 := c3.ne hv2 n1
  have hp3 := hp.dice c3 x2
  refine t_cons_of (s_call (ea_cons (ev_var rfl) (ea_cons (lenP _ hp3 _ rfl) (ea_cons (ev_N 40 rfl) ea_nil))) ⟨d, ps.length, 40, rfl, x3, by omega, by omega, by decide, by decide, fun lw w H4 f4 c4 x4 hw hh wl => ?_⟩)
  refine ⟨200, rfl, lw, _, rfl, SqL.of hw, fun p hpn => ?_⟩
  have ec : cutV (w.map natV) none (some 200) = (w.map natV).take 200 := cut_take 200
  rw [ec]
  have S5 : Same H4 (upd H4 p (.lst ((w.map natV).take 200))) := Same.new hpn
  refine ⟨by show 4 ≤ sizeLine; decide, fun t ht => ?_⟩
  have S6 : Same (upd H4 p (.lst ((w.map natV).take 200))) (upd (upd H4 p (.lst ((w.map natV).take 200))) t (.tup [.ref lv, .ref lp, .ref lr, .ref p])) := Same.new ht
  have np : p ≠ d := x4.ne hpn
  refine q t lv lp lr p values ps r (w.take 200) _ (((c1.trans c2).trans (c3.trans c4)).trans (Chg.same (Same.trans S5 S6))) (x4.same (Same.trans S5 S6)) upd_same ⟨S6 _ _ (S5 _ _ (c4.ne hv3 n1)), (hp3.dice c4 x3).same (Same.trans S5 S6), hr.mono fun b xs e => S6 _ _ (S5 _ _ (c4.tup _ _ e)), ?_, ?_, ?_, ?_⟩ n1 np
  · have : (upd H4 p (.lst ((w.map natV).take 200))) p = some (.lst ((w.map natV).take 200)) := upd_same
    rw [← List.map_take] at this
    rw [← List.map_take]
    rw [← List.map_take] at S6
    exact S6 _ _ this
  · exact ⟨l1, ov, ⟨l2, l3⟩, l4, od, or⟩
  · exact fun h hm => hh h (List.mem_of_mem_take hm)
  · rw [List.length_take]
    omega
end SS

set_option Elab.async false
set_option linter.all false
set_option maxRecDepth 100000
set_option maxHeartbeats 4000000
namespace SS
open PySem L2
local macro_rules | `(tactic| walk_at "q") => `(tactic| ((try dsimp only); refine s_seq ?_))

def saidD (x : Hd) : PyData := .list (x.said.map ansD)
def pairD (p : Nat × Nat) : PyData := .tuple [.int p.1, .int p.2]
def natsD (l : List Nat) : PyData := .list ((l.map Int.ofNat).map PyData.int)
def orderD (m : M) : PyData := .list (m.ends.map pairD)
/-- how a machine stands -/
def standL (m : M) : List PyData := (m.hands.map saidD ++ (m.hands.map fun x : Hd => (Int.ofNat x.mark)).map PyData.int) ++ [orderD m, .tuple [.int m.top, .int m.count], natsD m.links, natsD m.freed, natsD m.pile] ++ [.list (m.pileValues.map PyData.int), .bool m.strayed, .bool m.isDone]
def standD (m : M) : PyData := .list (standL m)
theorem okD_said (x : Hd) : okD 1 (saidD x) := okD_list fun d h => by
  obtain ⟨a, _, rfl⟩ := List.mem_map.mp h
  exact okD_ans a
theorem okD_pair (p : Nat × Nat) : okD 1 (pairD p) := okD_tup fun d h => by
  simp only [List.mem_cons, List.not_mem_nil, or_false] at h
  rcases h with rfl | rfl
  · exact okD_int _
  · exact okD_int _
theorem okD_order (l : List (Nat × Nat)) : okD 2 (.list (l.map pairD)) := okD_list fun d h => by
  obtain ⟨a, _, rfl⟩ := List.mem_map.mp h
  exact okD_pair a
theorem okD_stand (m : M) : okD 3 (standD m) := okD_list fun d h => by
  unfold standL at h
  simp only [List.mem_append, List.mem_cons, List.not_mem_nil, or_false] at h
  rcases h with ((h | h) | h) | h
  · obtain ⟨a, _, rfl⟩ := List.mem_map.mp h
    exact (okD_said a).mono (by decide)
  · obtain ⟨a, _, rfl⟩ := List.mem_map.mp h
    exact (okD_int _).mono (by decide)
  · rcases h with rfl | rfl | rfl | rfl | rfl
    · exact okD_order _
    · exact (okD_pair (m.top, m.count)).mono (by decide)
    · exact (okD_ints _).mono (by decide)
    · exact (okD_ints _).mono (by decide)
    · exact (okD_ints _).mono (by decide)
  · rcases h with rfl | rfl | rfl
    · exact (okD_ints _).mono (by decide)
    · exact (okD_bool _).mono (by decide)
    · exact (okD_bool _).mono (by decide)
theorem nats_map (l : List Nat) : l.map natV = (l.map Int.ofNat).map V.int := by
  rw [List.map_map]
  rfl
theorem natsDp {K : PySem.W.Frag} {H : Hp} {a : Addr} {l : List Nat} (h : H a = some (.lst (l.map natV))) : Dp K H (.ref a) (natsD l) := by
  rw [nats_map] at h
  exact .lst (SqL.of h) (dp_ints _)
theorem saidDp {K : PySem.W.Frag} {H : Hp} {a : Addr} {x : Hd} (h : H a = some (.lst (x.said.map ansV))) : Dp K H (.ref a) (saidD x) := by
  refine .lst (SqL.of h) ?_
  generalize x.said = l
  induction l with
  | nil => exact .nil
  | cons a l ih => exact .cons (ansDp a) ih
theorem saidsDp {K : PySem.W.Frag} {H : Hp} : ∀ {as : List Addr} {hs : List Hd}, All2 (fun (a : Addr) (x : Hd) => H a = some (.lst (x.said.map ansV))) as hs → DpAll K H (as.map V.ref) (hs.map saidD)
  | _, _, .nil => .nil
  | _, _, .cons a b => .cons (saidDp a) (saidsDp b)
theorem PairAt.dp {K : PySem.W.Frag} {H : Hp} {v : V} {p : Nat × Nat} (h : PairAt H v p) : Dp K H v (pairD p) := by
  obtain ⟨q, rfl, h⟩ := h
  exact .tup (SqT.of h) (.cons (.int _) (.cons (.int _) .nil))
theorem orderDp {K : PySem.W.Frag} {H : Hp} {a : Addr} {us : List V} {l : List (Nat × Nat)} (h : H a = some (.lst us)) (hu : All2 (PairAt H) us l) : Dp K H (.ref a) (.list (l.map pairD)) :=
  .lst (SqL.of h) (dp_of (R := PairAt H) (f := pairD) (fun _ _ h => h.dp) hu)
def sp_L_stand (Z : Cs) : Sp := fun vs H Q _ => ∃ (A : MA) (m : M) (n : Nat), vs = [.ref A.p, .int n] ∧ MachAt Z H A m ∧ n = m.hands.length ∧ n ≤ 3 ∧ PileOk m ∧ ∀ v H', Same H H' → Dp Z.K H' v (standD m) → Q v H'
/-- _law_stand: 0 _law_machine, 1 _law_hands, 2 _law_found, 3 _law_hand -/
def t_L_stand (Z : Cs) : TS :=
  tSeq (tAsg (tOp rCat (tLc (iRng1 (tCons (tVar 1) tNil)) (gName 3) tYes (tMeth Z.M "answers" (sp_M_answers Z) [] E0 (tVar 0) (tCons (tVar 3) tNil)) [3]) (tLc (iRng1 (tCons (tVar 1) tNil)) (gName 3) tYes (tMeth Z.M "marked" (sp_M_marked Z) [] E0 (tVar 0) (tCons (tVar 3) tNil)) [3])) (gName 2))
    (tSeq (tAsg (tOp rCat (tVar 2) (tLst (tCons (tMeth Z.M "order" (sp_M_order Z) [] E0 (tVar 0) tNil) (tCons (tMeth Z.M "top_now" (sp_M_top_now Z) [] E0 (tVar 0) tNil) (tCons (tMeth Z.M "nexts" (sp_M_nexts Z) [] E0 (tVar 0) tNil) (tCons (tMeth Z.M "free" (sp_M_free Z) [] E0 (tVar 0) tNil) (tCons (tMeth Z.M "pile" (sp_M_pile Z) [] E0 (tVar 0) tNil) tNil))))))) (gName 2))
    ((tRet (tOp rCat (tVar 2) (tLst (tCons (tMeth Z.M "pile_values" (sp_M_pile_values Z) [] E0 (tVar 0) tNil) (tCons (tMeth Z.M "is_stale" (sp_M_is_stale Z) [] E0 (tVar 0) tNil) (tCons (tMeth Z.M "is_done" (sp_M_is_done Z) [] E0 (tVar 0) tNil) tNil))))))))

theorem pure_L_stand {Z : Cs} (vs : List V) (H : Hp) (Q : VK) (E : XK) (h : sp_L_stand Z vs H Q E) : t_L_stand Z { nx := fun _ H' => Q .non H', rt := Q } (start ["_law_machine", "_law_hands", "_law_found", "_law_hand"] vs) H := by
  obtain ⟨A, m, n, rfl, T, hn, h3, pk, q⟩ := h
  unfold t_L_stand
  walk_at "q"
  refine s_asg_of (t_op_of (e_lcR (n := n) (ev_var rfl) (by omega) (fun D i H' => Same H H' ∧ ∃ as : List Addr, H' D = some (.lst (as.map V.ref)) ∧ All2 (fun (a : Addr) (x : Hd) => H' a = some (.lst (x.said.map ansV))) as (m.hands.take i) ∧ ∀ a ∈ as, a ≠ D)
    (fun D hD => ⟨Same.new hD, [], upd_same, by rw [List.take_zero]; exact .nil, fun _ h => by cases h⟩) (fun D i H' hi hD p => ?_) (fun D H1 hD p => ?_)))
  · obtain ⟨s3, as, hL, ha, fr⟩ := p
    have T4 := T.same s3
    obtain ⟨a, hah⟩ := T4.hand_of (i := i) (by omega)
    refine ⟨rfl, et_yes _ (iteT (s_meth (ev_var rfl) T4.obj (mf_no _ _ _ (by simp)) (ea_cons (ev_var rfl) ea_nil) ⟨A, m, i, a, rfl, T4, hah, fun l hl => ?_⟩))⟩
    have lD : l ≠ D := fun z => by rw [z, hL] at hl; cases hl
    have hi2 : m.hands[i]? = some (m.hd i) := by
      unfold M.hd
      rw [List.getD_eq_getElem?_getD, List.getElem?_eq_getElem (by omega)]
      rfl
    have hal := ha.length
    rw [List.length_take] at hal
    refine ⟨as.map V.ref, by rw [upd_ne lD.symm]; exact hL, ?_, ?_, as ++ [l], ?_, ?_, ?_⟩
    · rw [List.length_map, hal]
      exact Nat.lt_of_le_of_lt (by omega : _ ≤ 3) (by decide)
    · exact same_newer (fun b o e => Same.new hl _ _ (s3 b o e)) hD
    · rw [List.map_append]
      exact upd_same
    · rw [take_snoc hi2]
      refine (All2.mono2 (fun a x hm e => ?_) ha).snoc ?_
      · rw [upd_ne (fr a hm), upd_ne (fun z => by rw [z, hl] at e; cases e)]
        exact e
      · rw [upd_ne lD, upd_same]
    · intro b hb
      rcases List.mem_append.mp hb with h | h
      · exact fr b h
      · have hb' : b = l := by simpa using h
        subst hb'
        exact lD
  · obtain ⟨s1, as, hL, ha, _⟩ := p
    rw [hn, List.take_length] at ha
    have T1 := T.same s1
    have all := ha.length
    refine e_lcR (n := n) (ev_var rfl) (by omega) (fun D2 i H' => Same H1 H' ∧ H' D2 = some (.lst ((m.hands.take i).map fun x : Hd => natV x.mark)))
      (fun D2 hD => ⟨Same.new hD, by rw [List.take_zero]; exact upd_same⟩) (fun D2 i H' hi hD2 p => ?_) (fun D2 H2 hD2 p => ?_)
    · obtain ⟨s3, hL2⟩ := p
      have T4 := T1.same s3
      obtain ⟨a, hah⟩ := T4.hand_of (i := i) (by omega)
      have hi2 : m.hands[i]? = some (m.hd i) := by
        unfold M.hd
        rw [List.getD_eq_getElem?_getD, List.getElem?_eq_getElem (by omega)]
        rfl
      refine ⟨rfl, et_yes _ (iteT (s_meth (ev_var rfl) T4.obj (mf_no _ _ _ (by simp)) (ea_cons (ev_var rfl) ea_nil) ⟨A, m, i, a, rfl, T4, hah, ⟨_, hL2, ?_, same_newer s3 hD2, ?_⟩⟩))⟩
      · rw [List.length_map, List.length_take]
        exact Nat.lt_of_le_of_lt (by omega : _ ≤ 3) (by decide)
      · rw [take_snoc hi2, List.map_append]
        exact upd_same
    · obtain ⟨s2, hL2⟩ := p
      rw [hn, List.take_length] at hL2
      have T2 := T1.same s2
      have d1 : DpAll Z.K H2 (as.map V.ref) (m.hands.map saidD) := dpAll_same s2 _ _ (saidsDp ha)
      have e2 : (m.hands.map fun x : Hd => natV x.mark) = (m.hands.map fun x : Hd => (Int.ofNat x.mark)).map V.int := by
        rw [List.map_map]
        rfl
      refine ⟨D, D2, _, _, rfl, rfl, s2 _ _ hL, hL2, ?_, fun p hp => ?_⟩
      · rw [List.length_map, List.length_map, all]
        exact Nat.le_trans (by omega : _ ≤ 6) (by decide)
      show ({ nx := _, rt := Q : Ends }).nx _ _
      have sp : Same H2 (upd H2 p (.lst (as.map V.ref ++ m.hands.map fun x : Hd => natV x.mark))) := Same.new hp
      have hP : (upd H2 p (.lst (as.map V.ref ++ m.hands.map fun x : Hd => natV x.mark))) p = some (.lst (as.map V.ref ++ m.hands.map fun x : Hd => natV x.mark)) := upd_same
      have mk2 : ∀ H' : Hp, DpAll Z.K H' (m.hands.map fun x : Hd => natV x.mark) ((m.hands.map fun x : Hd => (Int.ofNat x.mark)).map PyData.int) := fun H' => by
        rw [e2]
        exact dp_ints _
      have d2 := dp_append (dpAll_same sp _ _ d1) (mk2 _)
      have T3 := T2.same sp
      have S3 : Same H (upd H2 p (.lst (as.map V.ref ++ m.hands.map fun x : Hd => natV x.mark))) := Same.trans s1 (Same.trans s2 sp)
      have lenU : (as.map V.ref ++ m.hands.map fun x : Hd => natV x.mark).length ≤ 6 := by
        rw [List.length_append, List.length_map, List.length_map, all]
        omega
      generalize (as.map V.ref ++ m.hands.map fun x : Hd => natV x.mark) = us at hP d2 T3 S3 lenU
      generalize upd H2 p (.lst us) = H3 at hP d2 T3 S3
      clear sp d1 hL2 hL
      walk_at "q"
      refine s_asg_of (t_op_of (ev_var rfl _ (t_lst_of (t_cons_of (s_meth (ev_var rfl) T3.obj (mf_no _ _ _ (by simp)) ea_nil ⟨A, m, rfl, T3, fun l1 u1 hl1 hu1 => ?_⟩)))))
      have k1 : Same H3 (upd H3 l1 (.lst u1)) := Same.new hl1
      have D1 : Dp Z.K (upd H3 l1 (.lst u1)) (.ref l1) (orderD m) := orderDp upd_same (hu1.mono fun _ _ => PairAt.mono fun b xs e => k1 _ _ e)
      generalize upd H3 l1 (.lst u1) = H4 at k1 D1 ⊢
      have T4 := T3.same k1
      refine t_cons_of (s_meth (ev_var rfl) T4.obj (mf_no _ _ _ (by simp)) ea_nil ⟨A, m, rfl, T4, fun l2 hl2 => ?_⟩)
      have k2 : Same H4 (upd H4 l2 (.tup [natV m.top, natV m.count])) := Same.new hl2
      have D2 : Dp Z.K (upd H4 l2 (.tup [natV m.top, natV m.count])) (.ref l2) (.tuple [.int m.top, .int m.count]) := .tup (SqT.of upd_same) (.cons (.int _) (.cons (.int _) .nil))
      generalize upd H4 l2 (.tup [natV m.top, natV m.count]) = H5 at k2 D2 ⊢
      have T5 := T4.same k2
      refine t_cons_of (s_meth (ev_var rfl) T5.obj (mf_no _ _ _ (by simp)) ea_nil ⟨A, m, rfl, T5, fun l3 hl3 => ?_⟩)
      have k3 : Same H5 (upd H5 l3 (.lst (m.links.map natV))) := Same.new hl3
      have D3 : Dp Z.K (upd H5 l3 (.lst (m.links.map natV))) (.ref l3) (natsD m.links) := natsDp upd_same
      generalize upd H5 l3 (.lst (m.links.map natV)) = H6 at k3 D3 ⊢
      have T6 := T5.same k3
      refine t_cons_of (s_meth (ev_var rfl) T6.obj (mf_no _ _ _ (by simp)) ea_nil ⟨A, m, rfl, T6, fun l4 hl4 => ?_⟩)
      have k4 : Same H6 (upd H6 l4 (.lst (m.freed.map natV))) := Same.new hl4
      have D4 : Dp Z.K (upd H6 l4 (.lst (m.freed.map natV))) (.ref l4) (natsD m.freed) := natsDp upd_same
      generalize upd H6 l4 (.lst (m.freed.map natV)) = H7 at k4 D4 ⊢
      have T7 := T6.same k4
      refine t_cons_of (s_meth (ev_var rfl) T7.obj (mf_no _ _ _ (by simp)) ea_nil ⟨A, m, rfl, T7, pk, fun l5 H8 hl5 k5 e5 => ?_⟩)
      have D5 : Dp Z.K H8 (.ref l5) (natsD m.pile) := natsDp e5
      have T8 := T7.same k5
      refine ⟨by show 5 ≤ sizeLine; decide, fun p2 hp2 => ?_⟩
      have k6 : Same H8 (upd H8 p2 (.lst [.ref l1, .ref l2, .ref l3, .ref l4, .ref l5])) := Same.new hp2
      have K35 : Same H3 H8 := Same.trans k1 (Same.trans k2 (Same.trans k3 (Same.trans k4 k5)))
      have hP2 := k6 _ _ (K35 _ _ hP)
      have T9 := T8.same k6
      refine ⟨p, p2, us, _, rfl, rfl, hP2, upd_same, Nat.le_trans (by show us.length + 5 ≤ 11; omega) (by decide), fun p3 hp3 => ?_⟩
      have A5 : DpAll Z.K (upd H8 p2 (.lst [.ref l1, .ref l2, .ref l3, .ref l4, .ref l5])) [.ref l1, .ref l2, .ref l3, .ref l4, .ref l5] [orderD m, .tuple [.int m.top, .int m.count], natsD m.links, natsD m.freed, natsD m.pile] :=
        dpAll_same k6 _ _ (.cons (dp_same (Same.trans k2 (Same.trans k3 (Same.trans k4 k5))) _ _ D1) (.cons (dp_same (Same.trans k3 (Same.trans k4 k5)) _ _ D2) (.cons (dp_same (Same.trans k4 k5) _ _ D3) (.cons (dp_same k5 _ _ D4) (.cons D5 .nil)))))
      have A6 := dp_append (dpAll_same (Same.trans K35 k6) _ _ d2) A5
      have S8 : Same H (upd H8 p2 (.lst [.ref l1, .ref l2, .ref l3, .ref l4, .ref l5])) := Same.trans S3 (Same.trans K35 k6)
      have k7 : Same (upd H8 p2 (.lst [.ref l1, .ref l2, .ref l3, .ref l4, .ref l5])) (upd (upd H8 p2 (.lst [.ref l1, .ref l2, .ref l3, .ref l4, .ref l5])) p3 (.lst (us ++ [.ref l1, .ref l2, .ref l3, .ref l4, .ref l5]))) := Same.new hp3
      have hP3 : (upd (upd H8 p2 (.lst [.ref l1, .ref l2, .ref l3, .ref l4, .ref l5])) p3 (.lst (us ++ [.ref l1, .ref l2, .ref l3, .ref l4, .ref l5]))) p3 = some (.lst (us ++ [.ref l1, .ref l2, .ref l3, .ref l4, .ref l5])) := upd_same
      show ({ nx := tRet _ _, rt := Q : Ends }).nx _ _
      dsimp only
      have A7 := dpAll_same k7 _ _ A6
      have TA := T9.same k7
      have SA := Same.trans S8 k7
      generalize upd (upd H8 p2 (.lst [.ref l1, .ref l2, .ref l3, .ref l4, .ref l5])) p3 (.lst (us ++ [.ref l1, .ref l2, .ref l3, .ref l4, .ref l5])) = H9 at hP3 A7 TA SA ⊢
      refine s_ret_of (t_op_of (ev_var rfl _ (t_lst_of (t_cons_of (s_meth (ev_var rfl) TA.obj (mf_no _ _ _ (by simp)) ea_nil ⟨A, m, rfl, TA, pk, fun l6 HA hl6 k8 e8 => ?_⟩)))))
      have TB := TA.same k8
      refine t_cons_of (s_meth (ev_var rfl) TB.obj (mf_no _ _ _ (by simp)) ea_nil ⟨A, m, rfl, TB, ?_⟩)
      refine t_cons_of (s_meth (ev_var rfl) TB.obj (mf_no _ _ _ (by simp)) ea_nil ⟨A, m, rfl, TB, by omega, fun HB k9 => ?_⟩)
      refine ⟨by show 3 ≤ sizeLine; decide, fun p4 hp4 => ?_⟩
      have ka : Same HB (upd HB p4 (.lst [.ref l6, .bl m.strayed, .bl m.isDone])) := Same.new hp4
      refine ⟨p3, p4, _, _, rfl, rfl, ka _ _ (k9 _ _ (k8 _ _ hP3)), upd_same, Nat.le_trans (by rw [List.length_append]; show us.length + 5 + 3 ≤ 14; omega) (by decide), fun p5 hp5 => ?_⟩
      have kb : Same (upd HB p4 (.lst [.ref l6, .bl m.strayed, .bl m.isDone])) (upd (upd HB p4 (.lst [.ref l6, .bl m.strayed, .bl m.isDone])) p5 (.lst ((us ++ [.ref l1, .ref l2, .ref l3, .ref l4, .ref l5]) ++ [.ref l6, .bl m.strayed, .bl m.isDone]))) := Same.new hp5
      have D6 : Dp Z.K HA (.ref l6) (.list (m.pileValues.map PyData.int)) := .lst (SqL.of e8) (dp_ints _)
      refine q _ _ (Same.trans SA (Same.trans k8 (Same.trans k9 (Same.trans ka kb)))) (.lst (SqL.of upd_same) (dp_append (dpAll_same (Same.trans k8 (Same.trans k9 (Same.trans ka kb))) _ _ A7) (.cons (dp_same (Same.trans k9 (Same.trans ka kb)) _ _ D6) (.cons (.bl _) (.cons (.bl _) .nil)))))
end SS

set_option Elab.async false
set_option linter.all false
set_option maxRecDepth 100000
set_option maxHeartbeats 4000000
namespace SS
open PySem L2
local macro_rules | `(tactic| walk_at "q") => `(tactic| ((try dsimp only); refine s_seq ?_))

/-! ### steps told, by parts -/
theorem tells_get {h : Nat} : ∀ {w : List Nat} {m : M} {k : Nat}, w[k]? = some h → (m.tells w)[k]? = some ((m.run (w.take k)).turn h).1
  | [], m, k, e => by cases k <;> cases e
  | x :: w, m, 0, e => by
    have : x = h := by simpa using e
    subst this
    rfl
  | x :: w, m, k + 1, e => by
    have e' : w[k]? = some h := by simpa using e
    exact tells_get (w := w) (m := m.step x) e'
theorem tells_take : ∀ (n : Nat) (w : List Nat) (m : M), (m.tells w).take n = m.tells (w.take n)
  | 0, w, m => by rw [List.take_zero, List.take_zero]; rfl
  | n + 1, [], m => rfl
  | n + 1, x :: w, m => congrArg ((m.turn x).1 :: ·) (tells_take n w (m.step x))
theorem step_ends (m : M) (h : Nat) : ∃ l, (m.step h).ends = m.ends ++ l := by
  have z : ∀ l : List (Nat × Nat), l = m.ends → ∃ l', l = m.ends ++ l' := fun l e => ⟨[], by rw [e, List.append_nil]⟩
  unfold M.step M.turn
  split
  · exact z _ rfl
  · split
    · cases hp : pick m.rule m.marked m.freed with
      | some c =>
        rw [taken_some hp]
        exact z _ rfl
      | none =>
        rw [taken_none hp]
        exact z _ rfl
    · split
      · unfold M.read
        split
        · exact ⟨[_], rfl⟩
        · exact z _ rfl
      · unfold M.push
        split
        · exact z _ rfl
        · split
          · exact ⟨[_], rfl⟩
          · exact z _ rfl
  · split
    · unfold M.read
      split
      · exact ⟨[_], rfl⟩
      · exact z _ rfl
    · unfold M.pop M.guard
      split
      · exact z _ rfl
      · split
        · split
          · exact z _ rfl
          · split <;> exact z _ rfl
        · split
          · exact z _ rfl
          · split
            · exact ⟨[_], rfl⟩
            · exact z _ rfl
theorem run_ends : ∀ (w : List Nat) (m : M), ∃ l, (m.run w).ends = m.ends ++ l
  | [], m => ⟨[], (List.append_nil _).symm⟩
  | h :: w, m => by
    obtain ⟨a, ha⟩ := step_ends m h
    obtain ⟨b, hb⟩ := run_ends w (m.step h)
    exact ⟨a ++ b, by rw [← List.append_assoc, ← ha]; exact hb⟩
theorem finish_ends : ∀ (n : Nat) (m : M), ∃ l, (M.finish n m).ends = m.ends ++ l
  | 0, m => ⟨[], (List.append_nil _).symm⟩
  | n + 1, m => by
    unfold M.finish
    split
    · exact ⟨[], (List.append_nil _).symm⟩
    · obtain ⟨a, ha⟩ := run_ends (List.range m.hands.length) m
      obtain ⟨b, hb⟩ := finish_ends n m.round
      exact ⟨a ++ b, by rw [← List.append_assoc, ← ha]; exact hb⟩

/-! ### two machines, apart -/
structure Two (Z : Cs) (H0 H : Hp) (A B : MA) (m n : M) : Prop where
  s : Same H0 H
  a : MachAt Z H A m
  b : MachAt Z H B n
structure Apart (H0 : Hp) (A B : MA) : Prop where
  fa : ∀ a, A.owns a → H0 a = none
  fb : ∀ a, B.owns a → H0 a = none
  n : ∀ a, A.owns a → ¬ B.owns a
theorem Two.same {Z : Cs} {H0 H H' : Hp} {A B : MA} {m n : M} (t : Two Z H0 H A B m n) (c : Same H H') : Two Z H0 H' A B m n := ⟨Same.trans t.s c, t.a.same c, t.b.same c⟩
theorem Two.turnA {Z : Cs} {H0 H H' : Hp} {A B : MA} {m n m' : M} (t : Two Z H0 H A B m n) (p : Apart H0 A B) (T : MachAt Z H' A m') (c : Chg A.owns H H') : Two Z H0 H' A B m' n := ⟨same_own t.s c p.fa, T, t.b.chg c fun a hb ha => p.n a ha hb⟩
theorem Two.turnB {Z : Cs} {H0 H H' : Hp} {A B : MA} {m n n' : M} (t : Two Z H0 H A B m n) (p : Apart H0 A B) (T : MachAt Z H' B n') (c : Chg B.owns H H') : Two Z H0 H' A B m n' := ⟨same_own t.s c p.fb, t.a.chg c fun a ha hb => p.n a ha hb, T⟩
theorem s_par_of {i j : Nat} {ta : TA} {D : Ends} {s : L2.St} {H : Hp} (h : ta s H fun vs H1 => ∃ v w, vs = [v, w] ∧ D.nx ((s.set i (some v)).set j (some w)) H1) : tPar i j ta D s H := h
theorem t_sl_of {r : V → Option Int → Option Int → Hp → VK → Prop} {te tp : TE} {s : L2.St} {H : Hp} {Q : VK} (h : te s H fun x H1 => tp s H1 fun y H2 => ∃ i, y = .int i ∧ r x none (some i) H2 Q) : tSl r te tNoPart (tPart tp) s H Q := h
theorem sl_take {K : PySem.W.Frag} {l : Addr} {xs : List V} {n : Nat} {H : Hp} {Q : VK} (hl : SqL K H l xs) (q : ∀ p, H p = none → Q (.ref p) (upd H p (.lst (xs.take n)))) : rSlL K (.ref l) none (some (n : Int)) H Q := ⟨l, xs, rfl, hl, fun p hp => by rw [cut_take]; exact q p hp⟩
theorem t_slN {K : PySem.W.Frag} {te tp : TE} {s : L2.St} {H : Hp} {Q : VK} {l : Addr} {xs : List V} {n : Nat} (h1 : Ev te s H (.ref l)) (h2 : Ev tp s H (.int n)) (hl : SqL K H l xs) (q : ∀ p, H p = none → Q (.ref p) (upd H p (.lst (xs.take n)))) : tSl (rSlL K) te tNoPart (tPart tp) s H Q :=
  t_sl_of (h1 _ (h2 _ ⟨_, rfl, sl_take hl q⟩))
theorem ne_skip {K : PySem.W.Frag} {x y : V} {d : PyData} {H : Hp} {tu : TS} {D : Ends} {st : L2.St} {n : Nat} (h1 : Dp K H x d) (h2 : Dp K H y d) (s : okD n d) (l : n ≤ 64) (k : D.nx st H) : rNeD K x y H (fun x H1 => ∃ k, x = .bl k ∧ if k = true then tu D st H1 else tNext D st H1) :=
  ne_same h1 h2 s l ⟨false, rfl, iteF k⟩
theorem ev_lenP {Z : Cs} {H : Hp} {n : Nat} {lp : Addr} {ps : List (List Deed)} {s : L2.St} (h : PgAt H lp ps) (hs : s[n]? = some (some (.ref lp))) : Ev (tCB (rLen1 Z.K) (tCons (tVar n) tNil)) s H (.int ps.length) := by
  obtain ⟨us, h1, h2⟩ := h
  rw [← h2.length]
  exact ev_lenL (ev_var hs) (SqL.of h1)
theorem ev_lenW {Z : Cs} {H : Hp} {n : Nat} {lw : Addr} {w : List Nat} {s : L2.St} (h : H lw = some (.lst (w.map natV))) (hs : s[n]? = some (some (.ref lw))) : Ev (tCB (rLen1 Z.K) (tCons (tVar n) tNil)) s H (.int w.length) := by
  have : w.length = (w.map natV).length := List.length_map .. |>.symm
  rw [this]
  exact ev_lenL (ev_var hs) (SqL.of h)
theorem t_or_of {t u : TT} {s : L2.St} {H : Hp} {Q : Bool → Hp → Prop} (h : t s H fun c H1 => if c = true then Q true H1 else u s H1 Q) : tOr t u s H Q := h
theorem t_and_of {t u : TT} {s : L2.St} {H : Hp} {Q : Bool → Hp → Prop} (h : t s H fun c H1 => if c = true then u s H1 Q else Q false H1) : tAnd t u s H Q := h
/-- len(machine.answers(hand)) == len(programs[hand]): whether it rests -/
theorem Fine.said {ps : List (List Deed)} {r : Rule} {m : M} (f : Fine ps r m) (j : Nat) : (m.rests j = true) = ((m.hd j).said.length = (ps.getD j []).length) := by
  have h1 := (f.hand j).said
  have h2 : m.prog j = ps.getD j [] := by
    unfold M.prog
    rw [f.progs]
  apply propext
  unfold M.rests
  rw [beq_iff_eq, h1, h2]
theorem t_lens {Z : Cs} {s : L2.St} {H : Hp} {A : MA} {m : M} {j n1 n2 n3 : Nat} {lp : Addr} {ps : List (List Deed)} {r : Rule} {Q : VK} (f : Fine ps r m) (T : MachAt Z H A m) (hj : j < ps.length) (hp : PgAt H lp ps) (e1 : s[n1]? = some (some (.ref A.p))) (e2 : s[n2]? = some (some (.int j))) (e3 : s[n3]? = some (some (.ref lp)))
    (q : ∀ H', Same H H' → Q (.bl (m.rests j)) H') : tOp rEq (tCB (rLen1 Z.K) (tCons (tMeth Z.M "answers" (sp_M_answers Z) [] E0 (tVar n1) (tCons (tVar n2) tNil)) tNil)) (tCB (rLen1 Z.K) (tCons (tOp (rIxL Z.K) (tVar n3) (tVar n2)) tNil)) s H Q := by
  obtain ⟨a, ha⟩ := T.hand_of (i := j) (by rw [f.hn]; exact hj)
  refine t_op_of (t_cb_of (t_cons_of (s_meth (ev_var e1) T.obj (mf_no _ _ _ (by simp)) (ea_cons (ev_var e2) ea_nil) ⟨A, m, j, a, rfl, T, ha, fun l hl => ⟨l, _, rfl, .inl (SqL.of upd_same), ?_⟩⟩)))
  have k1 : Same H (upd H l (.lst ((m.hd j).said.map ansV))) := Same.new hl
  obtain ⟨us, h1, h2⟩ := hp
  have hg : ps[j]? = some (ps.getD j []) := by
    rw [List.getD_eq_getElem?_getD, List.getElem?_eq_getElem hj]
    rfl
  obtain ⟨u, hu, q', us', rfl, h3, h4⟩ := h2.get j hg
  refine (ev_lenL (ev_ixL (ev_var e3) (ev_var e2) (SqL.of (k1 _ _ h1)) (atI_nat hu)) (SqL.of (k1 _ _ h3))) _ ⟨rfl, ?_⟩
  have e : decide (V.int ((((m.hd j).said.map ansV).length : Nat) : Int) = V.int ((us'.length : Nat) : Int)) = m.rests j := by
    rw [List.length_map, h4.length]
    have := f.said j
    cases er : m.rests j with
    | true =>
      rw [er] at this
      have t : (m.hd j).said.length = (ps.getD j []).length := this ▸ rfl
      rw [t]
      exact decide_eq_true rfl
    | false =>
      rw [er] at this
      refine decide_eq_false fun z => ?_
      have z2 : (m.hd j).said.length = (ps.getD j []).length := by
        have := V.int.inj z
        omega
      rw [← this] at z2
      cases z2
  rw [e]
  exact q _ k1
end SS

set_option Elab.async false
set_option linter.all false
set_option maxRecDepth 100000
set_option maxHeartbeats 4000000
/-! An own error whose base, an own class too, has the __init__ of ValueError. -/
namespace L2
open PySem PySem.Spec PyProof.Rows
section
variable {X : Cx} {e : Expr} {es : List Expr} {ta : TA} {p1 p2 pos : Pos}
theorem pe_ownbase {pl : Sem Bool} {x : Str} {mc : Value} {CB : Addr} (hg : Gl X x) (hm : X.mg x = some (.ref CB)) (gA : PySem.W.specialIn X.K (.ref CB) "__getattribute__" = some (some (.builtin "type.__getattribute__")))
    (hr : PySem.W.readsIn X.K CB mc = true) (vV : PySem.W.findCls X.K (.ref CB) mc "__init__" = some (.val (.builtin "ValueError.__init__"))) (ha : PA X (e :: es) ta)
    (hc : eval (.Call (.Attribute (.Name x p1) "__init__" p2) (e :: es) [] pos) X.env = (do
      let ov ← eval (.Name x p1) X.env
      standAt p2.atName
      let (f, first) ← holding [ov] (getMethod ov "__init__" pl)
      callWith pos f first (backTo pos (starEach (e :: es) X.env)) (backToKw pos (keywordEach [] X.env))) := by rfl) (hdb : (x == ("__debug__" : Str)) = false := by decide)
    (he : starEach (e :: es) X.env = (false, eval e X.env) :: starEach es X.env := by rfl) (hpl : (backTo pos (starEach es X.env)).any (·.1) = false := by rfl) :
    PE X (.Call (.Attribute (.Name x p1) "__init__" p2) (e :: es) [] pos) (tVeI X.K ta) := by
  refine ⟨fun pins s σ H Q I h => ?_⟩
  refine PySem.W.methodCall_KW (ld_glob I hg hm ?_ hdb) hc
  refine PySem.W.method_cls I.kIn gA ?_
  refine PySem.W.cls_value I.kIn hr vV (by decide +kernel) ?_
  show wpAny _ _ (callWith pos (Value.builtin "ValueError.__init__") [] (backTo pos (starEach (e :: es) X.env)) []) _ _ _
  refine PyProof.Rows.callWith_method1 (thn (ha.run pos pins _ σ H _ (I.tok _) h) fun us s1 ⟨vs, H1, I1, r1, a, C, ws, ev, hl, T, ea, q⟩ => ?_) he hpl
  subst ev
  cases r1 with
  | @cons _ u0 _ ur ra rw' =>
    obtain rfl : u0 = Value.ref a := ra
    have hlen : ur.length ≤ sizeLine := by
      rw [← Paired.length rw', sizeLine_eq]
      omega
    exact oinit_ok T I1 ea hlen fun s' J => ⟨.non, H1, J, rfl, q⟩
end
section
variable {X : Cx} {CX : CXT} {k : Nat} {f C : Addr} {fd : FuncData} {ps : List Str} {sp : Sp} {dvs : List V} {ds : List Value} {E : St → XK} {x : Str} {p pos : Pos} {e : Expr} {es : List Expr} {t : TA}
/-- an own object is made; its __init__ may raise, and the way out knows the locals -/
theorem run_makeS {pins : List (Addr × Obj)} {σ : St} {H : Hp} {s : Shared} {Q : VK} {us : List Value} {vs : List V} (M : Mk X.K C f) (F : FnOk X.prog X.w X.K X.mg X.base CX k f fd ps sp) (hr : Room (k + 1) X.A) (hb : Binds X.K fd ps ds) (hd : Vals dvs ds)
    (hx : PassesAt CX X σ (E σ)) (I : Inv X pins σ H s) (r : Vals vs us)
    (h : ∀ x dx, H x = none → H dx = none → dx ≠ x → sp (.ref x :: (vs ++ dvs)) (upd (upd H dx (.own x)) x (.ins C dx [])) (fun v H2 => v = .non ∧ Q (.ref x) H2) (E σ)) :
    wpAny (model X.prog X.w) X.A (call (.ref C) us) (EP X pins σ Q) X.xe s := by
  have hq := h (s.heap.objs.size + 1) s.heap.objs.size (I.hok.fresh (Nat.le_succ _)) (I.hok.fresh (Nat.le_refl _)) (Nat.ne_of_lt (Nat.lt_succ_self _))
  have I2 := Inv.made (C := C) I
  have r2 : Vals (V.ref (s.heap.objs.size + 1) :: (vs ++ dvs)) (Value.ref (s.heap.objs.size + 1) :: (us ++ ds)) := .cons rfl (r.append hd)
  have hl : (Value.ref (s.heap.objs.size + 1) :: us ++ ds).length = ps.length := by
    have e := r2.length
    rw [F.len _ _ _ _ hq] at e
    exact e.symm
  refine wpAny_call (make_map (f := f) I.kIn M.makes M.init (beq_iff_eq.mp M.fn) (codeAny_mono (F.run _ X.stack _ _ ⟨Value.ref (s.heap.objs.size + 1) :: us, []⟩ (Value.ref (s.heap.objs.size + 1) :: (us ++ ds)) _ _ (E σ) (hr.make C us [])
    (I2.env0.make C us []) (hb _ (Value.ref (s.heap.objs.size + 1) :: us) I2.kIn hl) r2 hq) fun r s' hq' => ?_))
  cases r with
  | error e => exact hx pins _ _ e s' I2 hq'
  | ok fl =>
    cases fl with
    | ret u =>
      obtain ⟨v, H', I3, rv, ev, q3⟩ := I2.after hq'
      subst ev
      exact ⟨rv, ⟨V.ref (s.heap.objs.size + 1), H', I3, rfl, q3⟩⟩
    | next => exact False.elim hq'
    | brk => exact False.elim hq'
    | cont => exact False.elim hq'
def tMakeS (C : Addr) (sp : Sp) (dvs : List V) (E : St → XK) (t : TA) : TE := fun σ H Q => t σ H fun vs H1 => ∀ x dx, H1 x = none → H1 dx = none → dx ≠ x → sp (.ref x :: (vs ++ dvs)) (upd (upd H1 dx (.own x)) x (.ins C dx [])) (fun v H2 => v = .non ∧ Q (.ref x) H2) (E σ)
theorem pe_makeS (M : Mk X.K C f) (F : FnOk X.prog X.w X.K X.mg X.base CX k f fd ps sp) (hr : Room (k + 1) X.A) (hg : Gl X x) (hm : X.mg x = some (.ref C)) (hb : Binds X.K fd ps ds) (hd : Vals dvs ds) (hx : ∀ σ, PassesAt CX X σ (E σ))
    (ha : PA X (e :: es) t) (hdb : (x == ("__debug__" : Str)) = false := by decide) (he : starEach (e :: es) X.env = (false, eval e X.env) :: starEach es X.env := by rfl) (hpl : (backTo pos (starEach es X.env)).any (·.1) = false := by rfl) :
    PE X (.Call (.Name x p) (e :: es) [] pos) (tMakeS C sp dvs E t) := by
  refine ⟨fun pins s σ H Q I h => ?_⟩
  refine wpAny_Call_Name_kw (ld_glob I hg hm ?_ hdb)
  refine PySem.W.callWith_K (h₀ := X.base) I.ok.mod.kin M.kp (thn (ha.run pos pins s σ H _ I h) fun us s1 ⟨vs, H1, I1, r, q⟩ => ⟨I1.kIn, ?_⟩) he hpl
  exact run_makeS M F hr hb hd (hx σ) I1 r q
end
end L2

set_option Elab.async false
set_option linter.all false
set_option maxRecDepth 100000
set_option maxHeartbeats 4000000
/-! What is a deed, of any tuple that begins with a word. -/
namespace SS
open PySem L2
local macro_rules | `(tactic| walk_at "q") => `(tactic| ((try dsimp only); refine s_seq ?_))
def pushOk : List V → Bool
  | [.int v] => decide (0 ≤ v) && decide (v ≤ 99)
  | _ => false
def isDeedV : List V → Bool
  | .str w :: r => if w = "pop" then r.isEmpty else decide (w = "push") && pushOk r
  | _ => false
/-- a tuple: empty, or a word and some more; behind "push", alone, an int -/
def DvOk (xs : List V) : Prop := xs = [] ∨ ∃ w r, xs = .str w :: r ∧ r.length ≤ 10 ∧ (r.length = 1 → ∃ v, r = [.int v])
def sp_is_deedG (Z : Cs) : Sp := fun vs H Q _ => ∃ (q : Addr) (xs : List V), vs = [.ref q] ∧ H q = some (.tup xs) ∧ DvOk xs ∧ Q (.bl (isDeedV xs)) H
theorem dec_str {a b : Str} : decide (V.str a = V.str b) = decide (a = b) := decide_eq_decide.mpr ⟨fun z => by injection z, fun z => by rw [z]⟩
theorem pure_is_deedG {Z : Cs} (vs : List V) (H : Hp) (Q : VK) (E : XK) (h : sp_is_deedG Z vs H Q E) : t_is_deed Z { nx := fun _ H' => Q .non H', rt := Q } (start ["deed"] vs) H := by
  obtain ⟨p, xs, rfl, hq, ok, q⟩ := h
  unfold t_is_deed
  walk_at "q"
  have len : ∀ {s : L2.St}, s[0]? = some (some (.ref p)) → Ev (tCB (rLen1 Z.K) (tCons (tVar 0) tNil)) s H (.int xs.length) := fun e => ev_lenT (ev_var e) (SqT.of hq)
  rcases ok with rfl | ⟨w, r, rfl, hr, h1⟩
  · exact s_ifT (et_is (et_test (ev_eq (len rfl) ev_c rfl)) (by decide +kernel)) (s_ret ev_c q)
  have l0 : decide (V.int ((V.str w :: r).length : Nat) = V.int 0) = false := decide_eq_false fun z => by
    injection z with z
    rw [List.length_cons] at z
    omega
  refine s_ifF (et_is (et_test (ev_eq (len rfl) ev_c rfl)) l0) ?_
  dsimp only [tNext]
  walk_at "q"
  have wd : ∀ {s : L2.St}, s[0]? = some (some (.ref p)) → Ev (tOp (rIxT Z.K) (tVar 0) (tC (.int 0))) s H (.str w) := fun e => ev_ixT (ev_var e) ev_c (SqT.of hq) (atI_nat (j := 0) rfl)
  by_cases e1 : w = "pop"
  · subst e1
    refine s_ifT (et_is (et_test (ev_eq (wd rfl) ev_c rfl)) (decide_eq_true rfl)) ?_
    refine s_ret (ev_is (ev_eq (len rfl) ev_c rfl) ?_) q
    show V.bl (decide (V.int ((V.str "pop" :: r).length : Nat) = V.int 1)) = V.bl (if ("pop" : Str) = "pop" then r.isEmpty else (decide (("pop" : Str) = "push") && pushOk r))
    rw [if_pos (rfl : ("pop" : Str) = "pop")]
    congr 1
    cases r with
    | nil => rfl
    | cons a r =>
      refine decide_eq_false fun z => ?_
      injection z with z
      rw [List.length_cons, List.length_cons] at z
      omega
  · refine s_ifF (et_is (et_test (ev_eq (wd rfl) ev_c rfl)) (by rw [dec_str, decide_eq_false e1])) ?_
    dsimp only [tNext]
    have eI : isDeedV (.str w :: r) = (decide (w = "push") && pushOk r) := if_neg e1
    rw [eI] at q
    refine s_ret (ev_is (ev_andV (b := pushOk r) (ev_eq (wd rfl) ev_c rfl) fun _ => ?_) (by rw [dec_str])) q
    by_cases e2 : r.length = 1
    · obtain ⟨v, rfl⟩ := h1 e2
      refine ev_is (ev_andV (ev_eq (len rfl) ev_c rfl) fun _ => ev_leLe ev_c (ev_ixT (v := .int v) (ev_var rfl) ev_c (SqT.of hq) (atI_nat (j := 1) rfl)) ev_c) ?_
      show V.bl (decide (V.int ((2 : Nat) : Int) = V.int 2) && _) = V.bl (decide (0 ≤ v) && decide (v ≤ 99))
      have d2 : decide (V.int ((2 : Nat) : Int) = V.int 2) = true := decide_eq_true rfl
      rw [d2, Bool.true_and]
    · have l2 : decide (V.int ((V.str w :: r).length : Nat) = V.int 2) = false := decide_eq_false fun z => by
        injection z with z
        rw [List.length_cons] at z
        omega
      refine ev_is (ev_andV (b := false) (ev_eq (len rfl) ev_c rfl) fun z => by rw [l2] at z; cases z) ?_
      rw [l2]
      show V.bl false = V.bl (pushOk r)
      congr 1
      cases r with
      | nil => rfl
      | cons a r =>
        cases r with
        | nil => exact absurd rfl e2
        | cons b r => cases a <;> rfl
end SS

set_option Elab.async false
set_option linter.all false
set_option maxRecDepth 100000
set_option maxHeartbeats 4000000
/-! Refusals: BadDeed raised. -/
namespace SS
open PySem L2
local macro_rules | `(tactic| walk_at "q") => `(tactic| ((try dsimp only); refine s_seq ?_))
/-- what the written part says of BadDeed, at C -/
structure BdC (K : PySem.W.Frag) (C : Addr) : Prop where
  oex : OexC K C
  hand : PySem.W.findIn K (.ref C) "hand" = some none
  number : PySem.W.findIn K (.ref C) "number" = some none
abbrev bdF (h n : Int) : List (Str × V) := [("number", .int n), ("hand", .int h)]
def sp_BadDeed (C : Addr) : Sp := fun vs H Q _ => ∃ (a : Addr) (h n : Int), vs = [.ref a, .int h, .int n] ∧ H a = some (exo a C none) ∧
  ∀ dx, H dx = none → dx ≠ a → Q .non (upd (upd (upd H dx (exd dx [("hand", .int h)])) a (exo a C (some dx))) dx (exd dx (bdF h n)))
/-- BadDeed.__init__: 0 self, 1 hand, 2 number -/
def t_BadDeed (K : PySem.W.Frag) : TS :=
  tSeq (tDrop (tVeI K (tCons (tVar 0) (tCons (tC (.str "a bad deed")) tNil)))) (tSeq (tOst K "hand" (tVar 0) (tVar 1)) (tOst K "number" (tVar 0) (tVar 2)))
theorem pure_BadDeed {K : PySem.W.Frag} {C : Addr} (T : BdC K C) (vs : List V) (H : Hp) (Q : VK) (E : XK) (h : sp_BadDeed C vs H Q E) : t_BadDeed K { nx := fun _ H' => Q .non H', rt := Q } (start ["self", "hand", "number"] vs) H := by
  obtain ⟨a, h, n, rfl, ha, q⟩ := h
  unfold t_BadDeed
  walk_at "q"
  refine s_drop' (ea_cons (ev_var (v := .ref a) rfl) (ea_cons ev_c ea_nil) _ ⟨a, C, _, rfl, by show 1 ≤ 1000; decide, T.oex, ha, ?_⟩)
  walk_at "q"
  refine ev_var (v := .int h) rfl _ (ev_var (v := .ref a) rfl _ ⟨a, C, rfl, T.oex, T.hand, .inl ⟨ha, fun dx hdx ne => ?_⟩⟩)
  dsimp only
  have g1 : (upd (upd H dx (exd dx [("hand", V.int h)])) a (exo a C (some dx))) a = some (exo a C (some dx)) := upd_same
  have g2 : (upd (upd H dx (exd dx [("hand", V.int h)])) a (exo a C (some dx))) dx = some (exd dx [("hand", V.int h)]) := by rw [upd_ne ne]; exact upd_same
  refine ev_var (v := .int n) rfl _ (ev_var (v := .ref a) rfl _ ⟨a, C, rfl, T.oex, T.number, .inr ⟨dx, _, g1, g2, by show 1 ≤ 900; decide, ?_⟩⟩)
  exact q dx hdx ne
/-- raise BadDeed(hand, number) -/
def tRzB (C : Addr) (W : WX) (ta : TA) : TS := fun _ σ H => tMkO C (sp_BadDeed C) [] ta σ H fun cls d H' => W cls d σ H'
theorem rz_bad {C : Addr} {W : WX} {ta : TA} {s : L2.St} {H : Hp} {D : Ends} {h n : Int} (ha : EvA ta s H [.int h, .int n]) (q : ∀ d, H d = none → W (.ref C) (some d) s (upd H d (.xd (bdF h n)))) : tRzB C W ta D s H := by
  refine ha _ ⟨by show 2 ≤ 1000; decide, fun a hna => ?_⟩
  refine ⟨a, h, n, rfl, upd_same, fun dx hdx ne => ⟨rfl, dx, bdF h n, ?_, upd_same, ?_, ?_⟩⟩
  · rw [upd_ne ne.symm]
    exact upd_same
  · rw [← hdx, upd_ne ne]
  · have hd : H dx = none := by rw [← hdx, upd_ne ne]
    have e : upd (del (upd (upd (upd (upd H a (exo a C none)) dx (exd dx [("hand", V.int h)])) a (exo a C (some dx))) dx (exd dx (bdF h n))) a) dx (.xd (bdF h n)) = upd H dx (.xd (bdF h n)) := by
      funext b
      by_cases e1 : b = dx
      · rw [e1, upd_same, upd_same]
      · rw [upd_ne e1, upd_ne e1]
        by_cases e2 : b = a
        · rw [e2, del_same, hna]
        · rw [del_ne e2, upd_ne e1, upd_ne e2, upd_ne e1, upd_ne e2]
    rw [e]
    exact q dx hd
end SS

set_option Elab.async false
set_option linter.all false
set_option maxRecDepth 100000
set_option maxHeartbeats 4000000
/-! need_deeds and need_programs, which may refuse. -/
namespace SS
open PySem L2
local macro_rules | `(tactic| walk_at "q") => `(tactic| ((try dsimp only); refine s_seq ?_))
def DAny (H : Hp) (v : V) (xs : List V) : Prop := ∃ q, v = .ref q ∧ H q = some (.tup xs) ∧ DvOk xs
def RowAny (H : Hp) (v : V) (xss : List (List V)) : Prop := ∃ p us, v = .ref p ∧ H p = some (.lst us) ∧ All2 (DAny H) us xss ∧ xss.length ≤ 1000
def FirstBad (xss : List (List V)) (n : Nat) : Prop := (∃ x, xss[n]? = some x ∧ isDeedV x = false) ∧ ∀ j x, j < n → xss[j]? = some x → isDeedV x = true
def goodRow (xss : List (List V)) : Prop := xss.length ≤ 4 ∧ ∀ x ∈ xss, isDeedV x = true
def sp_need_deedsX (Z : Cs) (C : Addr) : Sp := fun vs H Q E => ∃ (v : V) (h : Nat) (xss : List (List V)), vs = [v, .int h] ∧ RowAny H v xss ∧
  (∀ n, FirstBad xss n → ∀ d, H d = none → E (.ref C) (some d) (upd H d (.xd (bdF h n)))) ∧ ((∀ x ∈ xss, isDeedV x = true) → Q .non H)
def t_need_deedsX (Z : Cs) (C : Addr) (E : XK) : TS :=
  (tFor (iRng1 (tCons (tCB (rLen1 Z.K) (tCons (tVar 0) tNil)) tNil)) (gName 2) ((tIfS (tNot (tB (tCall (sp_is_deedG Z) [] E0 (tCons (tOp (rIxL Z.K) (tVar 0) (tVar 2)) tNil)))) (tRzB C (fun c d _ H => E c d H) (tCons (tVar 1) (tCons (tVar 2) tNil))) (tNext))))
theorem pure_need_deedsX {Z : Cs} {C : Addr} (vs : List V) (H : Hp) (Q : VK) (E : XK) (h : sp_need_deedsX Z C vs H Q E) : t_need_deedsX Z C E { nx := fun _ H' => Q .non H', rt := Q } (start ["deeds", "hand", "number"] vs) H := by
  obtain ⟨v, hh, xss, rfl, ⟨p, us, rfl, hp, hu, hl⟩, qb, qg⟩ := h
  unfold t_need_deedsX
  have ul := hu.length
  refine s_forR (n := xss.length) (ev_is (ev_lenL (ev_var rfl) (SqL.of hp)) (by rw [ul])) (by omega) (fun i s' H' => H' = H ∧ (∀ j x, j < i → xss[j]? = some x → isDeedV x = true) ∧ ∃ w, s' = [some (.ref p), some (.int (hh : Int)), w]) ⟨rfl, fun j x hj => by omega, none, rfl⟩ (fun i s' H' hi z => ?_) (fun s' H' z => ?_)
  · obtain ⟨rfl, hg, w, rfl⟩ := z
    have hx : xss[i]? = some xss[i] := List.getElem?_eq_getElem hi
    generalize xss[i] = x at hx
    obtain ⟨u, hui, q0, rfl, h0, hd⟩ := hu.get i hx
    refine s_if_of ?_
    show tCall _ _ _ _ _ _ _
    refine s_call (ea_cons (ev_ixL (ev_var rfl) (ev_var (v := .int (i : Int)) rfl) (SqL.of hp) (atI_nat hui)) ea_nil) ⟨q0, x, rfl, h0, hd, ⟨_, rfl, ?_⟩⟩
    cases e : isDeedV x with
    | true =>
      refine iteF ⟨rfl, fun j y hj hy => ?_, _, rfl⟩
      by_cases ej : j = i
      · rw [ej, hx] at hy
        cases hy
        exact e
      · exact hg j y (by omega) hy
    | false =>
      refine iteT (rz_bad (h := (hh : Int)) (n := (i : Int)) (ea_cons (ev_var rfl) (ea_cons (ev_var rfl) ea_nil)) fun d hd => ?_)
      exact qb i ⟨⟨x, hx, e⟩, hg⟩ d hd
  · obtain ⟨rfl, hg, w, rfl⟩ := z
    refine qg fun x hx => ?_
    obtain ⟨j, hj⟩ := List.mem_iff_getElem?.mp hx
    exact hg j x (List.getElem?_eq_some_iff.mp hj).1 hj
def sp_need_programsX (Z : Cs) (C : Addr) : Sp := fun vs H Q E => ∃ (l : Addr) (us : List V) (rows : List (List (List V))), vs = [.ref l] ∧ H l = some (.lst us) ∧ All2 (RowAny H) us rows ∧ rows.length ≤ 1000 ∧
  (¬ (1 ≤ rows.length ∧ rows.length ≤ 3) → ∀ d, H d = none → E (.ref C) (some d) (upd H d (.xd (bdF (rows.length : Nat) 0)))) ∧
  (1 ≤ rows.length ∧ rows.length ≤ 3 → (∀ (i : Nat) (xss : List (List V)), rows[i]? = some xss → (∀ (j : Nat) (x : List (List V)), j < i → rows[j]? = some x → goodRow x) → (4 < xss.length → ∀ d, H d = none → E (.ref C) (some d) (upd H d (.xd (bdF i 4)))) ∧ (xss.length ≤ 4 → ∀ n, FirstBad xss n → ∀ d, H d = none → E (.ref C) (some d) (upd H d (.xd (bdF i n))))) ∧
    ((∀ x ∈ rows, goodRow x) → Q .non H))
def t_need_programsX (Z : Cs) (C : Addr) (E : XK) : TS :=
  tSeq (tIfS (tNot (tTest (tChain rLeI rLeI (tC (.int 1)) (tCB (rLen1 Z.K) (tCons (tVar 0) tNil)) (tC (.int 3))))) (tRzB C (fun c d _ H => E c d H) (tCons (tCB (rLen1 Z.K) (tCons (tVar 0) tNil)) (tCons (tC (.int 0)) tNil))) (tNext))
    ((tFor (iRng1 (tCons (tCB (rLen1 Z.K) (tCons (tVar 0) tNil)) tNil)) (gName 1) (tSeq (tIfS (tTest (tOp rGtI (tCB (rLen1 Z.K) (tCons (tOp (rIxL Z.K) (tVar 0) (tVar 1)) tNil)) (tC (.int 4)))) (tRzB C (fun c d _ H => E c d H) (tCons (tVar 1) (tCons (tC (.int 4)) tNil))) (tNext))
    ((tDrop (tCallS (sp_need_deedsX Z C) (fun _ => E) (tCons (tOp (rIxL Z.K) (tVar 0) (tVar 1)) (tCons (tVar 1) tNil))))))))
theorem pure_need_programsX {Z : Cs} {C : Addr} (vs : List V) (H : Hp) (Q : VK) (E : XK) (h : sp_need_programsX Z C vs H Q E) : t_need_programsX Z C E { nx := fun _ H' => Q .non H', rt := Q } (start ["programs", "hand"] vs) H := by
  obtain ⟨l, us, rows, rfl, hl, hu, hz, qn, qr⟩ := h
  have ul := hu.length
  have len : ∀ {s : L2.St}, s[0]? = some (some (.ref l)) → Ev (tCB (rLen1 Z.K) (tCons (tVar 0) tNil)) s H (.int (rows.length : Nat)) := fun e => ev_is (ev_lenL (ev_var e) (SqL.of hl)) (by rw [ul])
  unfold t_need_programsX
  walk_at "q"
  by_cases hb : 1 ≤ rows.length ∧ rows.length ≤ 3
  · obtain ⟨qf, qg⟩ := qr hb
    refine s_ifF (et_is (et_not (et_test (ev_leLe ev_c (len rfl) ev_c))) ?_) ?_
    · rw [decide_eq_true (by omega), decide_eq_true (by omega)]
      rfl
    dsimp only [tNext]
    refine s_forR (n := rows.length) (len rfl) (by omega) (fun i s' H' => H' = H ∧ (∀ j x, j < i → rows[j]? = some x → goodRow x) ∧ ∃ w, s' = [some (.ref l), w]) ⟨rfl, fun j x hj => by omega, none, rfl⟩ (fun i s' H' hi z => ?_) (fun s' H' z => ?_)
    · obtain ⟨rfl, hg, w, rfl⟩ := z
      have hx : rows[i]? = some rows[i] := List.getElem?_eq_getElem hi
      generalize rows[i] = x at hx
      obtain ⟨u, hui, hr⟩ := hu.get i hx
      obtain ⟨f1, f2⟩ := qf i x hx hg
      obtain ⟨p, vs, rfl, hp, hv, hxl⟩ := id hr
      have vl := hv.length
      dsimp only [gName]
      walk_at "q"
      have lenr : Ev (tCB (rLen1 Z.K) (tCons (tOp (rIxL Z.K) (tVar 0) (tVar 1)) tNil)) [some (V.ref l), some (.int (i : Int))] H' (.int (x.length : Nat)) := ev_is (ev_lenL (ev_ixL (ev_var rfl) (ev_var (v := .int (i : Int)) rfl) (SqL.of hl) (atI_nat hui)) (SqL.of hp)) (by rw [vl])
      by_cases h4 : 4 < x.length
      · refine s_ifT (et_is (et_test (ev_gt lenr ev_c)) (decide_eq_true (by omega))) ?_
        exact rz_bad (h := (i : Int)) (n := 4) (ea_cons (ev_var rfl) (ea_cons ev_c ea_nil)) fun d hd => f1 h4 d hd
      · refine s_ifF (et_is (et_test (ev_gt lenr ev_c)) (decide_eq_false (by omega))) ?_
        dsimp only [tNext]
        refine s_drop' (ea_cons (ev_ixL (ev_var rfl) (ev_var (v := .int (i : Int)) rfl) (SqL.of hl) (atI_nat hui)) (ea_cons (ev_var (v := .int (i : Int)) rfl) ea_nil) _ ⟨_, i, x, rfl, hr, fun n hn d hd => f2 (by omega) n hn d hd, fun hgood => ?_⟩)
        refine ⟨rfl, fun j y hj hy => ?_, _, rfl⟩
        by_cases ej : j = i
        · rw [ej, hx] at hy
          cases hy
          exact ⟨by omega, hgood⟩
        · exact hg j y (by omega) hy
    · obtain ⟨rfl, hg, w, rfl⟩ := z
      refine qg fun x hx => ?_
      obtain ⟨j, hj⟩ := List.mem_iff_getElem?.mp hx
      exact hg j x (List.getElem?_eq_some_iff.mp hj).1 hj
  · refine s_ifT (et_is (et_not (et_test (ev_leLe ev_c (len rfl) ev_c))) ?_) ?_
    · by_cases h1 : 1 ≤ rows.length
      · rw [decide_eq_true (by omega), decide_eq_false (by omega)]
        rfl
      · rw [decide_eq_false (by omega)]
        rfl
    exact rz_bad (h := (rows.length : Nat)) (n := 0) (ea_cons (len rfl) (ea_cons ev_c ea_nil)) fun d hd => qn hb d hd
end SS

set_option Elab.async false
set_option linter.all false
set_option maxRecDepth 100000
set_option maxHeartbeats 4000000
/-! Machine.__init__, where programs are refused. -/
namespace SS
open PySem L2
local macro_rules | `(tactic| walk_at "q") => `(tactic| ((try dsimp only); refine s_seq ?_))
def RowBad (xss : List (List V)) (n : Nat) : Prop := (4 < xss.length ∧ n = 4) ∨ (xss.length ≤ 4 ∧ FirstBad xss n)
def BadAt (rows : List (List (List V))) (i n : Nat) : Prop := (∃ xss, rows[i]? = some xss ∧ RowBad xss n) ∧ ∀ (j : Nat) (x : List (List V)), j < i → rows[j]? = some x → goodRow x
theorem first_bad {xss : List (List V)} {n n' : Nat} (h : FirstBad xss n) (h' : FirstBad xss n') : n = n' := by
  obtain ⟨⟨x, h1, h2⟩, h3⟩ := h
  obtain ⟨⟨x', h1', h2'⟩, h3'⟩ := h'
  rcases Nat.lt_trichotomy n n' with z | z | z
  · have := h3' n x z h1
    rw [h2] at this
    cases this
  · exact z
  · have := h3 n' x' z h1'
    rw [h2'] at this
    cases this
theorem row_bad {xss : List (List V)} {n n' : Nat} (h : RowBad xss n) (h' : RowBad xss n') : n = n' := by
  rcases h with ⟨a, rfl⟩ | ⟨a, b⟩ <;> rcases h' with ⟨a', rfl⟩ | ⟨a', b'⟩
  · rfl
  · omega
  · omega
  · exact first_bad b b'
theorem not_good {xss : List (List V)} {n : Nat} (h : RowBad xss n) : ¬ goodRow xss := fun g => by
  rcases h with ⟨a, _⟩ | ⟨a, ⟨⟨x, h1, h2⟩, _⟩⟩
  · have := g.1
    omega
  · have := g.2 x (List.mem_of_getElem? h1)
    rw [h2] at this
    cases this
theorem bad_at {rows : List (List (List V))} {i n i' n' : Nat} (h : BadAt rows i n) (h' : BadAt rows i' n') : i = i' ∧ n = n' := by
  obtain ⟨⟨x, h1, h2⟩, h3⟩ := h
  obtain ⟨⟨x', h1', h2'⟩, h3'⟩ := h'
  rcases Nat.lt_trichotomy i i' with z | z | z
  · exact absurd (h3' i x z h1) (not_good h2)
  · subst z
    rw [h1] at h1'
    cases h1'
    exact ⟨rfl, row_bad h2 h2'⟩
  · exact absurd (h3 i' x' z h1') (not_good h2')
def sp_M_initX (Z : Cs) (C : Addr) : Sp := fun vs H Q E => ∃ (p lv lp lr : Addr) (values : List Int) (us : List V) (rows : List (List (List V))) (i n : Nat), vs = [.ref p, .ref lv, .ref lp, .ref lr] ∧ SqL Z.K H lv (values.map V.int) ∧ values.length ≤ 6 ∧ (∀ v ∈ values, okVal v) ∧
  H lp = some (.lst us) ∧ All2 (RowAny H) us rows ∧ (1 ≤ rows.length ∧ rows.length ≤ 3) ∧ BadAt rows i n ∧ ∀ d, H d = none → E (.ref C) (some d) (upd H d (.xd (bdF i n)))
def t_M_initX (Z : Cs) (C : Addr) (E : XK) (rest : TS) : TS :=
  tSeq (tDrop (tCall (sp_need_values Z) [] E0 (tCons (tVar 1) tNil))) (tSeq (tDrop (tCallS (sp_need_programsX Z C) (fun _ => E) (tCons (tVar 2) tNil))) rest)
theorem pure_M_initX {Z : Cs} {C : Addr} {rest : TS} {more : List Str} (vs : List V) (H : Hp) (Q : VK) (E : XK) (h : sp_M_initX Z C vs H Q E) : t_M_initX Z C E rest { nx := fun _ H' => Q .non H', rt := Q } (start ["self", "values", "programs", "rule", "program"] vs) H := by
  obtain ⟨p, lv, lp, lr, values, us, rows, i, n, rfl, hv, vl, ov, hp, hu, h3, hb, q⟩ := h
  unfold t_M_initX
  walk_at "q"
  refine s_drop' (s_call (ea_cons (ev_var rfl) ea_nil) ⟨lv, values, rfl, hv, vl, ov, ?_⟩)
  walk_at "q"
  refine s_drop' (ea_cons (ev_var (v := .ref lp) rfl) ea_nil _ ⟨lp, us, rows, rfl, hp, hu, by omega, fun z => absurd h3 z, fun _ => ⟨fun i' xss hx hg => ⟨fun h4 d hd => ?_, fun h4 n' hn d hd => ?_⟩, fun hg => ?_⟩⟩)
  · obtain ⟨e1, e2⟩ := bad_at hb ⟨⟨xss, hx, .inl ⟨h4, rfl⟩⟩, hg⟩
    rw [← e1]
    have := q d hd
    rw [e2] at this
    exact this
  · obtain ⟨e1, e2⟩ := bad_at hb ⟨⟨xss, hx, .inr ⟨h4, hn⟩⟩, hg⟩
    rw [← e1, ← e2]
    exact q d hd
  · obtain ⟨⟨x, hx, hbad⟩, _⟩ := hb
    exact absurd (hg x (List.mem_of_getElem? hx)) (not_good hbad)
end SS

set_option Elab.async false
set_option linter.all false
set_option maxRecDepth 100000
set_option maxHeartbeats 4000000
/-! Defs called in an except suite with the caught exception itself: a promise that knows the pinned object. -/
namespace SX
open PySem PySem.Spec PyProof.Rows L2 L2H HotX
abbrev Pin := Addr × Obj
abbrev SpP := Pin → Sp
structure FnP (P : Program) (w : World) (K : PySem.W.Frag) (mg : Str → Option Value) (base : Heap) (CX : CXT) (k : Nat) (f : Addr) (fd : FuncData) (ps : List Str) (sp : SpP) : Prop where
  len : ∀ pin vs H Q E, sp pin vs H Q E → vs.length = ps.length
  run : ∀ (pin : Pin) (A : Around) (outer : List Env) (s : Shared) (H : Hp) (args : Args) (us : List Value) (vs : List V) (Q : VK) (E : XK), RoomH k A → Hot1 A pin → PinOk outer H s pin → Env0 P w K mg base A outer s H →
    BindsTo s fd args (ps.zip us) → Vals vs us → sp pin vs H Q E → codeAny (model P w) A (.call (.ref f) args) (CR CX outer P w H s Q E) s
section
variable {P : Program} {w : World} {K : PySem.W.Frag} {mg : Str → Option Value} {base : Heap} {x qual : Str} {params : Arguments} {body : List Stmt} {scope : Scope} {dvs : List V} {kws : List (Str × V)} {f : Addr} {fd : FuncData}
theorem fnP_ok {CX : CXT} {N ps : List Str} {k : Nat} {sp : SpP} (F : FunD K x qual params body scope dvs kws f fd) (S : FnScope N ps scope) (ln : ∀ pin vs H Q E, sp pin vs H Q E → vs.length = ps.length)
    (bd : ∀ (cdv : Value) (pin : Pin) (A : Around) (outer : List Env) (s : Shared) (H : Hp) (vs : List V) (Q : VK) (E : XK), Hot1 A pin → RoomH k (A.deeper (envOfC qual scope s.heap.objs.size f cdv)) → sp pin vs H Q E →
      ∃ t, PSs (cxH CX P w K mg base N qual scope f cdv A outer s H E pin) body t ∧ t { nx := fun _ H' => Q .non H', rt := Q } (L2.start N vs) H) : FnP P w K mg base CX (k + 1) f fd ps sp := by
  obtain ⟨oc, od, dV, kV, doc, pm, an, cdv, ct, osl, rfl, lk, hcd, _, _⟩ := F.ex
  refine ⟨ln, fun pin A outer s H args us vs Q E room hot pinOk e0 bnd rel hsp => ?_⟩
  have nps := ln _ _ _ _ _ hsp
  have keepB : ∀ b o, base.get? b = some o → s.heap.get? b = some o := fun b o e => (e0.bs b o e).1
  have KX : K.In s.heap := e0.mod.kin.keeps keepB
  have lim : s.heap.NoLimit := e0.mod.nolimit.keeps keepB
  refine codeAny_call_function room.depth (KX _ _ lk) rfl S.co S.gen rfl (PySem.W.codeRec_of KX hcd) (bnd _ _ _ _ ?_)
  refine wpAny_newFunctionEnv_cells S.kind (fun y hy => ?_) fun env he st ic => ?_
  · rcases S.par y.1 (List.of_mem_zip (show (y.1, y.2) ∈ ps.zip us from hy)).1 with loc | cel
    · exact .inl loc
    · exact .inr ⟨cel, PySem.W.cellsFrom_some _ _ _ (.inl cel)⟩
  subst he
  refine ⟨lim.keeps ic.toInCall.keep, codeAny_func ?_⟩
  obtain ⟨t, der, red⟩ := bd cdv pin A outer s H vs Q E hot (room.deeper _) hsp
  refine wpAny_mono (der.run [] st (L2.start N vs) H _ (inv_startH S pinOk e0 nps rel ic) red) (fun fl z hz => ?_) fun _ _ hz => hz
  cases fl with
  | ret u =>
    obtain ⟨v, σ', H', J, rv, qv⟩ := hz
    exact ⟨v, H', J.os, J.bare, J.base, J.hok, rv, qv⟩
  | next =>
    obtain ⟨σ', H', J, qv⟩ := hz
    exact ⟨.non, H', J.os, J.bare, J.base, J.hok, rfl, qv⟩
  | brk => exact hz.choose_spec.choose_spec.2.elim
  | cont => exact hz.choose_spec.choose_spec.2.elim
end
section
variable {X : Cx} {CX : CXT} {k : Nat} {f C : Addr} {fd : FuncData} {ps : List Str} {sp : SpP} {E : L2.St → XK} {x : Str} {q pos : Pos} {e : Expr} {es : List Expr} {t : TA}
def tCallP (pin : Pin) (sp : SpP) (E : L2.St → XK) (t : TA) : TE := fun σ H Q => t σ H fun vs H1 => sp pin vs H1 Q (E σ)
theorem pe_callP {pin : Pin} (F : FnP X.prog X.w X.K X.mg X.base CX k f fd ps sp) (room : RoomH k X.A) (hot : Hot1 X.A pin) (hin : pin ∈ X.pn) (hg : Gl X x) (hm : X.mg x = some (.ref f)) (kp : PySem.W.keepIn X.K (.ref f) = true) (bnd : Binds X.K fd ps [])
    (pass : ∀ σ, PassesAt CX X σ (E σ)) (args : PA X (e :: es) t) (hdb : (x == ("__debug__" : Str)) = false := by decide) (he : starEach (e :: es) X.env = (false, eval e X.env) :: starEach es X.env := by rfl)
    (hpl : (backTo pos (starEach es X.env)).any (·.1) = false := by rfl) : PE X (.Call (.Name x q) (e :: es) [] pos) (tCallP pin sp E t) := by
  refine ⟨fun pins s σ H Q I red => ?_⟩
  refine wpAny_Call_Name_kw (ld_glob I hg hm ?_ hdb)
  refine PySem.W.callWith_K (h₀ := X.base) I.ok.mod.kin kp (thn (args.run pos pins s σ H _ I red) fun us st ⟨vs, H1, J, rel, hsp⟩ => ⟨J.kIn, ?_⟩) he hpl
  have lus : us.length = ps.length := rel.length.symm.trans (F.len _ _ _ _ _ hsp)
  have bb := bnd st us J.kIn (by rw [List.append_nil]; exact lus)
  rw [List.append_nil] at bb
  obtain ⟨p1, p2, p3, p4, p5⟩ := J.pin pin (List.mem_append_left _ hin)
  have po : PinOk X.stack H1 st pin := ⟨p1, p2, fun hmem => by
    rcases List.mem_cons.mp (J.stkSub pin.1 hmem) with z | z
    · exact p3 z
    · exact p4 z, p5⟩
  refine wpAny_call (codeAny_mono (F.run pin X.A X.stack st H1 ⟨us, []⟩ us vs Q (E σ) room hot po J.env0 bb rel hsp) fun r z hz => ?_)
  cases r with
  | error er => exact pass σ pins H1 st er z J hz
  | ok fl =>
    cases fl with
    | ret u => exact J.after hz
    | next => exact hz.elim
    | brk => exact hz.elim
    | cont => exact hz.elim
end
/-- isinstance(e, c), e a pinned exception of an own class -/
structure IsC (K : PySem.W.Frag) (D : Addr) : Prop where
  cl : (PySem.W.clsIn K D).isSome = true
  ga : PySem.W.findIn K (.ref D) "__getattribute__" = some (some (.builtin "BaseException.__getattribute__"))
  gt : PySem.W.findIn K (.ref D) "__getattr__" = some none
  su : PySem.W.subIn K (.ref D) (.type "BaseException") = some true
  ca : PySem.W.findIn K (.ref D) "__class__" = some (some (.builtin "object.__class__"))
  gs : PySem.W.specialIn K (.builtin "object.__class__") "__get__" = some (some (.builtin "getset_descriptor.__get__"))
  tk : PySem.W.takesIn K (.builtin "object.__class__") = some true
  mo : PySem.W.mroIn K D (.type "object") = some true
/-- the pin is an exception of the class at D, with its dict's object tracked or none -/
def PinIs (H : Hp) (pin : Pin) (D : Addr) : Prop := pin.2.cls = .ref D ∧ (∃ vs, pin.2.data = .fields vs) ∧ (pin.2.dict = none ∨ ∃ dd fs, pin.2.dict = some dd ∧ H dd = some (.xd fs))
def rIsP (K : PySem.W.Frag) (pin : Pin) : List V → Hp → VK → Prop := fun xs H Q => ∃ (D : Addr) (c : V) (cv : Value) (b : Bool), xs = [.ref pin.1, c] ∧ IsC K D ∧ PinIs H pin D ∧ (∀ u, RelV c u → u = cv) ∧ PySem.W.kitOne K (.ref D) cv = some b ∧ Q (.bl b) H
theorem call_isP {X : Cx} {pin : Pin} (hin : pin ∈ X.pn) : CallR X (.builtin "isinstance") (rIsP X.K pin) := by
  intro pins s σ H xs us Q I rel red
  obtain ⟨D, c, cv, b, rfl, C, ⟨ec, ⟨vs, ed⟩, dict⟩, hcv, kit, q⟩ := red
  obtain ⟨u1, u2, rfl, r1, r2⟩ := vals2 rel
  obtain rfl : u1 = Value.ref pin.1 := r1
  obtain rfl := hcv _ r2
  obtain ⟨at_, _⟩ := I.pin pin (List.mem_append_left _ hin)
  have no : PySem.W.notCls pin.2 = true := by
    unfold PySem.W.notCls
    rw [ed]
  have key : ∃ od, PySem.W.InstAt s.heap pin.1 pin.2 D od := by
    rcases dict with z | ⟨dd, fs, z, hd⟩
    · exact ⟨none, at_, ec, no, by rw [z]; trivial⟩
    · obtain ⟨mA, ns, _⟩ := (show ObjOk X.prog X.w H s.heap dd (.xd fs) from I.hok dd _ hd)
      obtain ⟨od, ho, _⟩ := lookIn_ns ns
      exact ⟨some od, at_, ec, no, by rw [z]; exact ho⟩
  obtain ⟨od, J⟩ := key
  exact PySem.W.kia_one (PySem.W.kitx_exc (ox := pin.2) (od := od) C.cl C.ga C.gt C.su C.ca C.gs C.tk C.mo) I.kIn J kit (fun z => nomatch z) fun tk => ⟨.bl b, H, I.kept (t' := tk) fun _ _ z => z, rfl, q⟩
end SX

set_option Elab.async false
set_option linter.all false
set_option maxRecDepth 100000
set_option maxHeartbeats 4000000
/-! A list comprehension over a list, and a for over a list, while an exception is handled. -/
namespace SX
open PySem PySem.Spec PyProof.Rows L2 L2H HotX
section
variable {prog : Program} {w : World} {A : Around} {E : Value → Shared → Prop} {s : Shared}
theorem lstIt_end_hot {it l x1 : Addr} {i : Nat} {items : Array Value} {Q : Option Value → Shared → Prop} (hot : HotAt A x1 s.heap) (nit : x1 ≠ it) (hit : s.heap.IsListIter it l i) (hl : s.heap.IsList l items) (hx : items[i]? = none)
    (q : ∀ h', (∀ b o, b ≠ it → s.heap.get? b = some o → h'.get? b = some o) → Q none { s with heap := h' }) : wpAny (model prog w) A (pyNext (.ref it)) Q E s := by
  obtain ⟨o, ho, hc, hd⟩ := id hit
  obtain ⟨ol, hol, _, nl, hdl⟩ := hl
  obtain ⟨hh, o1, v1, g1, d1, c1⟩ := hot
  unfold pyNext
  refine wpAny_bind (wpAny_attempt (wpAny_callSpecial?_slot (name := Str.ofString "__next__") hit.typeIs slot_listiter_next (wpAny_call_entry slot_listiter_next hit.typeIs entry_listiter_next ?_ (args_listiter_next _))))
  show wpAny _ _ (field (.ref it) 0 >>= _) _ _ s
  refine wpAny_bind (wpAny_field ho hd (x := .ref l) rfl ?_)
  show wpAny _ _ (if (Value.ref l == Value.none) = true then _ else _) _ _ s
  rw [if_neg (show ¬ ((Value.ref l == Value.none) = true) from Bool.false_ne_true)]
  show wpAny _ _ (field (.ref it) 1 >>= _) _ _ s
  refine wpAny_bind (wpAny_field ho hd (x := .int i 0) rfl ?_)
  show wpAny _ _ (seqItems? (.ref l) >>= _) _ _ s
  refine wpAny_bind (wpAny_seqItems hol hdl ?_)
  simp only [Int.toNat_natCast, hx]
  refine wpAny_bind (wpAny_rule (wpAny_bind (wpAny_setField ho hd (by simp) ?_)))
  show wpAny _ _ (newExc (.type "StopIteration") [] >>= _) _ _ _
  refine wpAny_bind ?_
  simp only [newExc, newTuple]
  have g2 : ∀ b u, b ≠ it → s.heap.get? b = some u → (s.heap.update it (Obj.mapFields (·.setIfInBounds 0 .none))).get? b = some u := fun b u ne e => by
    rw [Heap.get?_update_other _ _ (Ne.symm ne)]
    exact e
  refine wpAny_bind (wpAny_newObj_type ?_ (by size_fits))
  refine wpAny_bind (m := firstArgMember _ _) (wpAny_of_eq (a := Value.none) (by first | rfl | (simp only [firstArgMember]; rfl)) ?_)
  refine wpAny_newObj_type ?_ (by size_fits)
  have g3 : ∀ {t1 t2 : Obj} b u, b ≠ it → s.heap.get? b = some u → (((s.heap.update it (Obj.mapFields (·.setIfInBounds 0 .none))).push t1).push t2).get? b = some u := fun b u ne e => Heap.get?_push_of_some _ (Heap.get?_push_of_some _ (g2 b u ne e))
  refine raiseNew_hot ⟨hh, o1, v1, g3 _ _ nit g1, d1, c1⟩ (Nat.ne_of_lt (Heap.lt_size (Heap.get?_push_of_some _ (g2 _ _ nit g1)))) (Heap.get?_push_size _ rfl) rfl (by first | (simp; done) | (simp; omega) | (simp only [Array.size_append]; simp; omega)) ?_
  refine wpAny_bind (wpAny_isInstance (T := "StopIteration") (b := true) ⟨_, Heap.get?_update_self _ (Heap.get?_push_size _ rfl) rfl, rfl⟩ isSubtype_stop ?_)
  refine wpAny_pure (q _ fun b u ne e => ?_)
  rw [Heap.get?_update_other _ _ (Nat.ne_of_gt (Heap.lt_size (Heap.get?_push_of_some _ (g2 b u ne e))))]
  exact g3 b u ne e
end
section
variable {X : Cx} {pin : Pin}
/-- [elt for x in list], elt a function of the item: the list l is read, the new one is D -/
def tLcS (ti te : TE) (k : Nat) : TE := fun σ H Q => ti σ H fun v H1 => ∃ (l : Addr) (xs : List V) (g : V → V), v = .ref l ∧ H1 l = some (.lst xs) ∧ xs.length ≤ 1000 ∧
  (∀ y ∈ xs, ∀ H2, te ((wipe σ [k]).set k (some y)) H2 fun z H3 => z = g y ∧ H3 = H2) ∧ ∀ D, H1 D = none → Q (.ref D) (upd H1 D (.lst (xs.map g)))
theorem pe_lcS {elt iter : Expr} {y : Str} {py pos : Pos} {scope : Scope} {k : Nat} {ti te : TE} (hin : pin ∈ X.pn) (hot : Hot1 X.A pin) (hN : X.N.Nodup) (hi : PE X iter ti) (ok : BlkOk X.N X.env.scope scope [(y, k)])
    (hg : ∀ (s : Shared) (H : Hp) (C : Addr) (cl : List (Str × Addr)) (fp : List Addr), PG (X.blk s H scope (compEnvC scope cl C X.env) fp) (.Name y py) (gName k))
    (he : ∀ (s : Shared) (H : Hp) (C : Addr) (cl : List (Str × Addr)) (fp : List Addr), PE (X.blk s H scope (compEnvC scope cl C X.env) fp) elt te) (hs : ∀ x, foldedSetIterable iter X.env x = pure x := by intro _; rfl) :
    PE X (.ListComp elt [⟨.Name y py, iter, [], 0⟩] scope pos) (tLcS ti te k) := by
  refine ⟨fun pins s σ H Q I red => ?_⟩
  rw [eval_ListComp]
  have free : ∀ z ∈ scope.names, z.2 = .free → ∃ c, X.env.cells.lookup z.1 = some c := fun z hz e => (ok.free z hz e).elim (fun q => I.ok.has _ (.inl q)) fun q => I.ok.has _ (.inr q)
  refine wpAny_comprehension_free (use := none) rfl hs (closure_ok free) ok.kind (fun z hz e => by rw [ok.uniq z hz, e]) (thn (hi.run pins s σ H _ I red) fun v1 s1 hx => ?_)
  obtain ⟨v, H1, I1, rv, l, xs, g, rfl, hl, lx, step, q⟩ := hx
  obtain rfl : v1 = Value.ref l := rv
  obtain ⟨its, rits, pl, _⟩ := I1.list (SqL.of hl)
  refine wpAny_pyIter_list pl.isList ?_
  generalize hit : s1.heap.objs.size = it
  generalize hs2 : ({ s1 with heap := s1.heap.push { cls := .type "list_iterator", data := .fields #[.ref l, .int 0 0] } } : Shared) = s2
  have h2 : s2.heap = s1.heap.push { cls := .type "list_iterator", data := .fields #[.ref l, .int 0 0] } := by rw [← hs2]
  have I2 : Inv X pins σ H1 s2 := by
    rw [← hs2]
    exact I1.kept (t' := s1.toks) fun b o e => Heap.get?_push_of_some _ e
  have it2 : s2.heap.IsListIter it l 0 := by
    rw [h2, ← hit]
    exact ⟨_, Heap.get?_push_size _ rfl, rfl, rfl⟩
  have fit : FpOk X pins H1 it := I1.fpOk (Nat.le_of_eq hit) (I1.hok.fresh (Nat.le_of_eq hit))
  have szit : it < s2.heap.objs.size := by rw [h2, Heap.size_push, hit]; exact Nat.lt_succ_self _
  refine wpAny_newObj_type (newEnv_comp ?_) (by show 0 ≤ sizeLine; decide)
  generalize hD : s2.heap.objs.size = D
  have fD : H1 D = none := I2.hok.fresh (Nat.le_of_eq hD)
  have neD : l ≠ D := ne_of_none hl fD
  generalize hs3 : ({ s2 with heap := s2.heap.push { cls := .type "list", data := .seq ([] : List Value).toArray } } : Shared) = s3
  have h3 : s3.heap = s2.heap.push { cls := .type "list", data := .seq ([] : List Value).toArray } := by rw [← hs3]
  have I3 : Inv X pins σ (upd H1 D (.lst [])) s3 := by
    rw [← hs3]
    refine I2.laid (t' := s2.toks) (fun b o e => Heap.get?_push_of_some _ e) (Nat.le_of_eq hD) ⟨Nat.zero_le _, [], 0, .nil, ?_⟩
    rw [← hD]
    exact Heap.get?_push_size _ rfl
  have it3 : s3.heap.IsListIter it l 0 := it2.at fun o e => by rw [h3]; exact Heap.get?_push_of_some _ e
  have neit : it ≠ D := by rw [← hD]; exact Nat.ne_of_lt szit
  have fp3 : ∀ b ∈ [it], FpOk X pins (upd H1 D (.lst [])) b ∧ b < s3.heap.objs.size := fun b hb => by
    obtain rfl := List.mem_singleton.mp hb
    exact ⟨⟨by rw [upd_ne neit]; exact fit.1, fit.2⟩, by rw [h3, Heap.size_push]; exact Nat.lt_succ_of_lt szit⟩
  have I4 := block_start I3 ok hN fp3
  have pg := hg s3 (upd H1 D (.lst [])) s3.heap.objs.size (cellsFrom (s3.heap.objs.size + 1) scope.names (cloFrom X.env.cells scope.names [])) [it]
  have pe := he s3 (upd H1 D (.lst [])) s3.heap.objs.size (cellsFrom (s3.heap.objs.size + 1) scope.names (cloFrom X.env.cells scope.names [])) [it]
  show codeAny _ _ (.compStart (.ListComp elt [⟨.Name y py, iter, [], 0⟩] scope pos) 0 (.ref it) (.ref D) (compEnvC scope (cellsFrom (s3.heap.objs.size + 1) scope.names (cloFrom X.env.cells scope.names [])) s3.heap.objs.size X.env)) (compPost (model X.prog X.w) X.A X.xe none _ (.ref D) s3.heap.objs.size) { s3 with heap := pushCells (s3.heap.push { cls := .type "dict", data := .dict #[] }) scope.names }
  obtain ⟨p1, p2, p3, p4, p5⟩ := I3.pin pin (List.mem_append_left _ hin)
  generalize hce : compEnvC scope (cellsFrom (s3.heap.objs.size + 1) scope.names (cloFrom X.env.cells scope.names [])) s3.heap.objs.size X.env = ce at I4 pg pe ⊢
  have cL : ce.locals = s3.heap.objs.size := by subst hce; rfl
  generalize hH3 : upd H1 D (.lst []) = H3 at I3 I4 pg pe p2 fp3
  generalize hs4 : ({ s3 with heap := pushCells (s3.heap.push { cls := .type "dict", data := .dict #[] }) scope.names } : Shared) = s4 at I4 ⊢
  have up4 : ∀ b o, s3.heap.get? b = some o → s4.heap.get? b = some o := fun b o e => by rw [← hs4]; exact pushCells_keeps _ _ _ _ (Heap.get?_push_of_some _ e)
  have it4 : s4.heap.IsListIter it l 0 := it3.at fun o e => up4 _ _ e
  have nps : pin.1 ∉ frs X.stack := fun hmem => (List.mem_cons.mp (I3.stkSub pin.1 hmem)).elim p3 p4
  have npit : pin.1 ≠ it := (fp3 it (List.mem_singleton.mpr rfl)).1.2.2.2.2.2 pin (List.mem_append_left _ hin)
  have I5 : Inv (X.blk s3 H3 scope ce [it]) [pin] (wipe σ [k]) H3 s4 := I4.pins_of fun p hp => by
    obtain rfl := List.mem_singleton.mp hp
    exact ⟨up4 _ _ p1, p2, by show p.1 ≠ ce.locals; rw [cL]; exact Nat.ne_of_lt (Heap.lt_size p1), nps, p5⟩
  have fpB : ∀ {σ' : L2.St} {H' : Hp} {s' : Shared}, Inv (X.blk s3 H3 scope ce [it]) [pin] σ' H' s' → H' it = none → FpOk (X.blk s3 H3 scope ce [it]) [pin] H' it := fun {σ' H' s'} J n => by
    have m := List.mem_singleton.mpr (rfl : it = it)
    refine ⟨n, (J.ok.exf it m).1, J.ok.exfs it m, .inl m, fun x c e => (J.ok.exf it m).2 x c e, fun p hp => ?_⟩
    obtain rfl : p = pin := by simpa using (show p ∈ ([] : List (Addr × Obj)) ++ [pin] from hp)
    exact npit
  have nit3 : H3 it = none := (fp3 it (List.mem_singleton.mpr rfl)).1.1
  have loop : codeAny (model X.prog X.w) X.A (.compLoop (.ListComp elt [⟨.Name y py, iter, [], 0⟩] scope pos) 0 (.ref it) (.ref D) ce) (compPost (model X.prog X.w) X.A X.xe none (EP X pins σ Q) (.ref D) s3.heap.objs.size) s4 := by
    refine compLoop_any (fun n z => ∃ i, n + i = xs.length ∧ Inv (X.blk s3 H3 scope ce [it]) [pin] (wipe σ [k]) (upd H1 D (.lst ((xs.take i).map g))) z ∧ z.heap.IsListIter it l i) ?_ xs.length ⟨0, rfl, by rw [← hH3] at I5; exact hH3 ▸ I5, it4⟩
    rintro n z ⟨i, ni, J, iz⟩
    have nz : (upd H1 D (.lst ((xs.take i).map g))) it = none := by rw [upd_ne neit]; exact fit.1
    have hlz : (upd H1 D (.lst ((xs.take i).map g))) l = some (.lst xs) := by rw [upd_ne neD]; exact hl
    obtain ⟨jts, rj, pj, _⟩ := J.list (SqL.of hlz)
    obtain ⟨f0, f1, f2, f3, f4, f5⟩ := fpB J nz
    by_cases hi : i < xs.length
    · obtain ⟨u, hu, ru⟩ := rj.get (List.getElem?_eq_getElem hi)
      refine thnF (wpAny_pyNext_list_item iz pj.isList (x := u) (by simpa using hu) (Q := fun r s5 => r = some u ∧ Inv (X.blk s3 H3 scope ce [it]) [pin] (wipe σ [k]) (upd H1 D (.lst ((xs.take i).map g))) s5 ∧ s5.heap.IsListIter it l (i + 1)) fun h' st' sb =>
        ⟨rfl, J.turned (t' := z.toks) (fun b o hb e => (sb.2 b hb).trans e) f0 f1 f3 f4 f5, st'⟩) fun r s5 ⟨hr, J5, i5⟩ => ?_
      subst hr
      obtain ⟨oi, oe, oc, od⟩ := id i5
      refine go_of (s := s5) oe oc od (by decide) ?_
      have pinit : ∀ p ∈ [pin, (it, oi)], s5.heap.get? p.1 = some p.2 ∧ (upd H1 D (.lst ((xs.take i).map g))) p.1 = none ∧ p.1 ≠ ce.locals ∧ p.1 ∉ frs X.stack ∧ ∀ v, p.2.data ≠ .cell v := fun p hp => by
        rcases List.mem_cons.mp hp with e | e
        · rw [e]
          obtain ⟨z1, z2, z3, z4, z5⟩ := J5.pin pin (List.mem_append_right _ List.mem_cons_self)
          exact ⟨z1, z2, z3, z4, z5⟩
        · rw [List.mem_singleton.mp e]
          exact ⟨oe, nz, f1, f2, fun v e => by rw [od] at e; cases e⟩
      have J6 : Inv (X.blk s3 H3 scope ce [it]) [pin, (it, oi)] (wipe σ [k]) (upd H1 D (.lst ((xs.take i).map g))) s5 := J5.pins_of pinit
      refine thnF (pg.run _ s5 _ _ (xs[i]) u (fun σ' H' => σ' = (wipe σ [k]).set k (some xs[i]) ∧ H' = upd H1 D (.lst ((xs.take i).map g))) J6 ru ⟨rfl, rfl⟩) fun _ s6 ⟨σ6, H6, J7, e6, e7⟩ => ?_
      subst e6 e7
      refine wpAny_tests_nil ?_
      rw [if_pos rfl]
      refine thnF (pe.run _ s6 _ _ _ J7 (step _ (List.getElem_mem hi) _)) fun w s7 ⟨v7, H7, J8, r8, e8, e9⟩ => ?_
      subst e8 e9
      have lt : ((xs.take i).map g).length < sizeLine := by
        rw [List.length_map, List.length_take, sizeLine_eq]
        omega
      refine app_ok (X := X.blk s3 H3 scope ce [it]) J8 upd_same lt r8 fun s8 J9 => ⟨n - 1, by omega, i + 1, by omega, ?_, ?_⟩
      · have eL : (xs.take i).map g ++ [g xs[i]] = (xs.take (i + 1)).map g := by
          rw [List.take_succ_eq_append_getElem hi, List.map_append]
          rfl
        rw [upd_upd, eL] at J9
        have J9' := J9.pins_of (pins' := [pin]) fun p hp => J9.pin p (List.mem_append_right _ (List.mem_cons.mpr (.inl (List.mem_singleton.mp hp))))
        refine J9'.weak (by rw [List.length_set]) fun j v e => ?_
        have nk : k ≠ j := fun z => (wipe_some e).2 (by rw [z]; exact List.mem_cons_self)
        rw [List.getElem?_set_ne nk]
        exact e
      · have pz := J9.pin (it, oi) (List.mem_append_right _ (List.mem_cons_of_mem _ List.mem_cons_self))
        exact i5.at fun o e => by rw [oe] at e; cases e; exact pz.1
    · have hx : jts.toArray[i]? = none := by
        have := rj.length
        simp
        omega
      obtain ⟨z1, z2, z3, z4, z5⟩ := J.pin pin (List.mem_append_right _ List.mem_cons_self)
      obtain ⟨hh, v1, e1, c1⟩ := id hot
      refine lstIt_end_hot (x1 := pin.1) ⟨hh, pin.2, v1, z1, e1, c1⟩ npit iz pj.isList hx fun h' sb => ?_
      have J6 : Inv (X.blk s3 H3 scope ce [it]) [pin] (wipe σ [k]) (upd H1 D (.lst ((xs.take i).map g))) { z with heap := h' } := J.turned (t' := z.toks) (fun b o hb e => sb b o hb e) f0 f1 f3 f4 f5
      have J7 : Inv X pins σ (upd H1 D (.lst ((xs.take i).map g))) { z with heap := h' } := I3.call' (ch := [it]) J6.os (by
        have := J6.base
        rw [← hH3] at this ⊢
        exact this) J6.hok J6.bare fun b hb => by
          obtain rfl := List.mem_singleton.mp hb
          exact ⟨fit.2.2.2.1, fit.2.1, fit.2.2.2.2.1, fit.2.2.2.2.2⟩
      obtain ⟨m, ns, _⟩ := J6.loc
      have ns : h'.Ns ce.locals m := ns
      have nC : (upd H1 D (.lst ((xs.take i).map g))) ce.locals = none := J6.free
      rw [cL] at ns nC
      obtain ⟨c0, c1, c2, c3, c4, c5⟩ := I3.fpOk (H' := upd H1 D (.lst ((xs.take i).map g))) (Nat.le_refl _) nC
      refine ⟨m, ns, fun h'' sb2 => ⟨.ref D, _, J7.turned (t' := z.toks) (fun b o hb e => (sb2.2 b hb).trans e) c0 c1 c3 c4 c5, rfl, ?_⟩⟩
      rw [List.take_of_length_le (by omega)]
      exact q D fD
  exact codeAny_compStart_list loop (wpAny_pyIter_listiter it4 loop)
end
end SX

set_option Elab.async false
set_option linter.all false
set_option maxRecDepth 100000
set_option maxHeartbeats 4000000
/-! An own exception with an own __init__, made where nothing is handled: its context is None. -/
namespace SX
open PySem PySem.Spec PyProof.Rows L2 L2H HotX
theorem pmkN_oex {X : Cx} {CX : CXT} {x : Str} {e : Expr} {es : List Expr} {ta : TA} {p pos : Pos} {C fI : Addr} {k : Nat} {fd : FuncData} {ps : List Str} {sp : Sp} (T : OexC X.K C) (ini : PySem.W.findIn X.K (.ref C) "__init__" = some (some (.ref fI))) (fun_ : PySem.W.typeIn X.K (.ref fI) = some (.type "function"))
    (Fi : FnOk X.prog X.w X.K X.mg X.base CX k fI fd ps sp) (room : Room (k + 1) X.A) (bnd : Binds X.K fd ps []) (pass : Passes CX X (fun _ _ _ => False)) (hg : Gl X x) (hm : X.mg x = some (.ref C)) (args : PA X (e :: es) ta)
    (hdb : (x == ("__debug__" : Str)) = false := by decide) (he : starEach (e :: es) X.env = (false, eval e X.env) :: starEach es X.env := by rfl) (hpl : (backTo pos (starEach es X.env)).any (·.1) = false := by rfl) :
    L2N.PMk X (.Call (.Name x p) (e :: es) [] pos) (tMkO C sp [] ta) := by
  intro pins s σ H Q I red
  obtain ⟨nm, q, N, bs, bm, sn, sub, ab, col, dd, k0, k1, k2, k3, k5, hC, hbm⟩ := T.cls
  refine wpAny_Call_Name_kw (ld_glob I hg hm ?_ hdb)
  refine PySem.W.callWith_K (h₀ := X.base) I.ok.mod.kin T.kC (thn (args.run pos pins s σ H _ I red) fun us st ⟨vs, H1, J, rel, short, wish⟩ => ⟨J.kIn, ?_⟩) he hpl
  show wpAny _ _ (call (.ref C) us) _ _ _
  obtain ⟨hp, g, dr, tk, os⟩ := st
  have le1 : hp.objs.size ≤ hp.objs.size + 1 := Nat.le_succ _
  have red1 := wish (hp.objs.size + 1) (J.hok.fresh le1)
  generalize hG : (hp.push (PySem.W.kdv_tup us)).push (PySem.HandSPX.excO C hp.objs.size) = G
  have keepG : ∀ b o, hp.get? b = some o → G.get? b = some o := fun b o e => by rw [← hG]; exact Heap.get?_push_of_some _ (Heap.get?_push_of_some _ e)
  have J2 : Inv X pins σ (upd H1 (hp.objs.size + 1) (exo (hp.objs.size + 1) C none)) ⟨G, g, dr, tk, os⟩ :=
    J.laid (t' := tk) (a := hp.objs.size + 1) (o := exo (hp.objs.size + 1) C none) (h' := G) keepG le1 (exo_ok (by rw [← hG]; heap_get))
  have rel2 : Vals (V.ref (hp.objs.size + 1) :: (vs ++ [])) (Value.ref (hp.objs.size + 1) :: (us ++ [])) := .cons rfl (rel.append .nil)
  have len2 : (Value.ref (hp.objs.size + 1) :: us ++ []).length = ps.length := by
    have e := rel2.length
    rw [Fi.len _ _ _ _ red1] at e
    exact e.symm
  have few : us.length ≤ sizeLine := by
    rw [← Paired.length rel, sizeLine_eq]
    omega
  have run := Fi.run _ X.stack _ _ ⟨Value.ref (hp.objs.size + 1) :: us, []⟩ (Value.ref (hp.objs.size + 1) :: (us ++ [])) _ _ (fun _ _ _ => False) (room.make C us []) (J2.env0.make C us []) (by have := bnd _ (Value.ref (hp.objs.size + 1) :: us) J2.kIn len2; rwa [List.cons_append] at this) rel2 red1
  rw [← hG] at run J2
  refine wpAny_call (PySem.HandSPX.call_own F.excBase_ValueError (fun Y => PySem.HandSPX.refsVE_contains Y bm hbm) (J.kIn _ _ hC) (PySem.W.looks_findIn J.kIn ini) (fun self => PySem.W.bind_fn J.kIn self fun_) few (codeAny_mono run fun r z hz => ?_))
  cases r with
  | error er => exact pass pins σ _ _ er z J2 hz
  | ok fl =>
    cases fl with
    | next => exact hz.elim
    | brk => exact hz.elim
    | cont => exact hz.elim
    | ret u =>
      obtain ⟨v, H2, sameOs, bare2, un2, hok2, rv, ev, d, fs, atA, atD, newD, fine⟩ := hz
      subst ev
      obtain ⟨h2, g2, d2, t2, os'⟩ := z
      obtain ⟨t0, G', J3, kG, gone, there, na⟩ := mk_end0 (d2 := d2) (t2 := t2) J le1 (hG ▸ keepG) un2 hok2 sameOs bare2 atA atD newD
      refine ⟨rv, hp.objs.size + 1, _, _, ⟨G', g2, d2, t2, os'⟩, _, .ref C, some d, rfl, J3, kG, gone, there, ⟨rfl, rfl, fun vz hv => ?_⟩, rfl, rfl, na, rfl, bare2, raises_own T.exC T.tyC, fine⟩
      cases hv
      rfl
end SX

set_option Elab.async false
set_option linter.all false
set_option maxRecDepth 100000
set_option maxHeartbeats 4000000
/-! `_law_is`: which refusal the caught one is. -/
namespace SS
open PySem L2 SX
local macro_rules | `(tactic| walk_at "q") => `(tactic| ((try dsimp only); refine s_seq ?_))
/-- the four words -/
def word4 : Nat → Str
  | 0 => "pile"
  | 1 => "deed"
  | 2 => "rule"
  | _ => "hand"
/-- the four classes, what isinstance says of their instances -/
structure Ks4 (K : PySem.W.Frag) (c : Nat → Addr) : Prop where
  is : ∀ i, i < 4 → IsC K (c i)
  kit : ∀ i j, i < 4 → j < 4 → PySem.W.kitOne K (.ref (c i)) (.ref (c j)) = some (decide (i = j))
  val : ∀ i, i < 4 → PySem.W.kitOne K (.ref (c i)) (.type "ValueError") = some true
theorem pinIs_same {H H' : Hp} (c : Same H H') {pin : Pin} {D : Addr} (h : PinIs H pin D) : PinIs H' pin D := by
  obtain ⟨h1, h2, h3⟩ := h
  refine ⟨h1, h2, ?_⟩
  rcases h3 with h3 | ⟨dd, fs, h3, h4⟩
  · exact .inl h3
  · exact .inr ⟨dd, fs, h3, c _ _ h4⟩
def sp_L_is (c : Nat → Addr) : SpP := fun pin vs H Q _ => ∃ (i : Nat) (w : Str), i < 4 ∧ vs = [.ref pin.1, .str w] ∧ PinIs H pin (c i) ∧ ∀ H', Same H H' → Q (.bl (decide (w = word4 i))) H'
/-- _law_is: 0 _law_e, 1 _law_word, 2 _law_kinds, 3 _law_words, 4 _law_one -/
def t_L_is (Z : Cs) (c : Nat → Addr) (pin : Pin) : TS :=
  tSeq (tAsg (tLst (tCons (tCB (rIsP Z.K pin) (tCons (tVar 0) (tCons (tC (.ref (c 0))) tNil))) (tCons (tCB (rIsP Z.K pin) (tCons (tVar 0) (tCons (tC (.ref (c 1))) tNil))) (tCons (tCB (rIsP Z.K pin) (tCons (tVar 0) (tCons (tC (.ref (c 2))) tNil)))
    (tCons (tCB (rIsP Z.K pin) (tCons (tVar 0) (tCons (tC (.ref (c 3))) tNil))) tNil))))) (gName 2))
    (tSeq (tAsg (tLst (tCons (tC (.str "pile")) (tCons (tC (.str "deed")) (tCons (tC (.str "rule")) (tCons (tC (.str "hand")) tNil))))) (gName 3))
    (tRet (tAndV (tCB (rIsP Z.K pin) (tCons (tVar 0) (tCons (tC (.ty "ValueError")) tNil))) (tOp (rEqD Z.K) (tVar 2) (tLcS (tVar 3) (tOp rEq (tVar 1) (tVar 4)) 4)))))
theorem t_andV_of {ta tb : TE} {s : L2.St} {H : Hp} {Q : VK} (h : ta s H fun x H1 => ∃ c, x = .bl c ∧ if c = true then tb s H1 Q else Q (.bl false) H1) : tAndV ta tb s H Q := h
theorem eqv_four (a0 a1 a2 a3 b0 b1 b2 b3 : Bool) : PyData.eqv (.list [.bool a0, .bool a1, .bool a2, .bool a3]) (.list [.bool b0, .bool b1, .bool b2, .bool b3]) = (a0 == b0 && (a1 == b1 && (a2 == b2 && a3 == b3))) := by
  cases a0 <;> cases b0 <;> cases a1 <;> cases b1 <;> cases a2 <;> cases b2 <;> cases a3 <;> cases b3 <;> rfl
theorem is_four {i : Nat} (hi : i < 4) (w : Str) : PyData.eqv (.list [.bool (decide (i = 0)), .bool (decide (i = 1)), .bool (decide (i = 2)), .bool (decide (i = 3))]) (.list [.bool (decide (w = "pile")), .bool (decide (w = "deed")), .bool (decide (w = "rule")), .bool (decide (w = "hand"))]) = decide (w = word4 i) := by
  rw [eqv_four]
  have n1 : ("pile" : Str) ≠ "deed" := by decide +kernel
  have n2 : ("pile" : Str) ≠ "rule" := by decide +kernel
  have n3 : ("pile" : Str) ≠ "hand" := by decide +kernel
  have n4 : ("deed" : Str) ≠ "rule" := by decide +kernel
  have n5 : ("deed" : Str) ≠ "hand" := by decide +kernel
  have n6 : ("rule" : Str) ≠ "hand" := by decide +kernel
  by_cases h0 : w = "pile"
  · have m1 := h0 ▸ n1
    have m2 := h0 ▸ n2
    have m3 := h0 ▸ n3
    rw [decide_eq_true h0, decide_eq_false m1, decide_eq_false m2, decide_eq_false m3]
    match i, hi with
    | 0, _ => exact (decide_eq_true h0).symm
    | 1, _ => exact (decide_eq_false m1).symm
    | 2, _ => exact (decide_eq_false m2).symm
    | 3, _ => exact (decide_eq_false m3).symm
  rw [decide_eq_false h0]
  by_cases h1 : w = "deed"
  · have m2 := h1 ▸ n4
    have m3 := h1 ▸ n5
    rw [decide_eq_true h1, decide_eq_false m2, decide_eq_false m3]
    match i, hi with
    | 0, _ => exact (decide_eq_false h0).symm
    | 1, _ => exact (decide_eq_true h1).symm
    | 2, _ => exact (decide_eq_false m2).symm
    | 3, _ => exact (decide_eq_false m3).symm
  rw [decide_eq_false h1]
  by_cases h2 : w = "rule"
  · have m3 := h2 ▸ n6
    rw [decide_eq_true h2, decide_eq_false m3]
    match i, hi with
    | 0, _ => exact (decide_eq_false h0).symm
    | 1, _ => exact (decide_eq_false h1).symm
    | 2, _ => exact (decide_eq_true h2).symm
    | 3, _ => exact (decide_eq_false m3).symm
  rw [decide_eq_false h2]
  cases h3 : decide (w = "hand") with
  | true =>
    match i, hi with
    | 0, _ => exact (decide_eq_false h0).symm
    | 1, _ => exact (decide_eq_false h1).symm
    | 2, _ => exact (decide_eq_false h2).symm
    | 3, _ => exact h3.symm
  | false =>
    match i, hi with
    | 0, _ => exact (decide_eq_false h0).symm
    | 1, _ => exact (decide_eq_false h1).symm
    | 2, _ => exact (decide_eq_false h2).symm
    | 3, _ => exact h3.symm
theorem pure_L_is {Z : Cs} {c : Nat → Addr} {pin : Pin} (ks : Ks4 Z.K c) (vs : List V) (H : Hp) (Q : VK) (E : XK) (h : sp_L_is c pin vs H Q E) : t_L_is Z c pin { nx := fun _ H' => Q .non H', rt := Q } (start ["_law_e", "_law_word", "_law_kinds", "_law_words", "_law_one"] vs) H := by
  obtain ⟨i, w, hi, rfl, hp, q⟩ := h
  unfold t_L_is
  have isk : ∀ {s : L2.St} {H' : Hp} (j : Nat), j < 4 → Same H H' → s[0]? = some (some (.ref pin.1)) → Ev (tCB (rIsP Z.K pin) (tCons (tVar 0) (tCons (tC (.ref (c j))) tNil))) s H' (.bl (decide (i = j))) := fun j hj cc e Q q =>
    ea_cons (ev_var e) (ea_cons ev_c ea_nil) _ ⟨c i, .ref (c j), .ref (c j), _, rfl, ks.is i hi, pinIs_same cc hp, fun u r => r, ks.kit i j hi hj, q⟩
  walk_at "q"
  refine s_asg_of (e_lst (ea_cons (isk 0 (by omega) (Same.refl _) rfl) (ea_cons (isk 1 (by omega) (Same.refl _) rfl) (ea_cons (isk 2 (by omega) (Same.refl _) rfl) (ea_cons (isk 3 (by omega) (Same.refl _) rfl) ea_nil)))) (by show 4 ≤ 1000; decide) fun a ha => ?_)
  show ({ nx := _, rt := Q : Ends }).nx _ _
  walk_at "q"
  have k1 : Same H (upd H a (.lst [.bl (decide (i = 0)), .bl (decide (i = 1)), .bl (decide (i = 2)), .bl (decide (i = 3))])) := Same.new ha
  have g1 : (upd H a (.lst [.bl (decide (i = 0)), .bl (decide (i = 1)), .bl (decide (i = 2)), .bl (decide (i = 3))])) a = some (.lst [.bl (decide (i = 0)), .bl (decide (i = 1)), .bl (decide (i = 2)), .bl (decide (i = 3))]) := upd_same
  generalize upd H a (.lst [.bl (decide (i = 0)), .bl (decide (i = 1)), .bl (decide (i = 2)), .bl (decide (i = 3))]) = H1 at k1 g1 ⊢
  refine s_asg_of (e_lst (ea_cons ev_c (ea_cons ev_c (ea_cons ev_c (ea_cons ev_c ea_nil)))) (by show 4 ≤ 1000; decide) fun b hb => ?_)
  show ({ nx := _, rt := Q : Ends }).nx _ _
  dsimp only
  have k2 : Same H1 (upd H1 b (.lst [.str "pile", .str "deed", .str "rule", .str "hand"])) := Same.new hb
  have g2 : (upd H1 b (.lst [.str "pile", .str "deed", .str "rule", .str "hand"])) b = some (.lst [.str "pile", .str "deed", .str "rule", .str "hand"]) := upd_same
  generalize upd H1 b (.lst [.str "pile", .str "deed", .str "rule", .str "hand"]) = H2 at k2 g2 ⊢
  have c2 := Same.trans k1 k2
  refine s_ret_of (t_andV_of (t_cb_of (ea_cons (ev_var (v := .ref pin.1) rfl) (ea_cons ev_c ea_nil) _ ⟨c i, .ty "ValueError", .type "ValueError", true, rfl, ks.is i hi, pinIs_same c2 hp, fun u r => r, ks.val i hi, true, rfl, ?_⟩)))
  rw [if_pos rfl]
  refine t_op_of (ev_var (v := .ref a) rfl _ ?_)
  refine ev_var (v := .ref b) rfl _ ⟨b, [.str "pile", .str "deed", .str "rule", .str "hand"], fun v => .bl (decide (V.str w = v)), rfl, g2, by show 4 ≤ 1000; decide, fun y hy H3 => ?_, fun D hD => ?_⟩
  · have sc : scal (V.str w) y = true := by
      simp only [List.mem_cons, List.not_mem_nil, or_false] at hy
      rcases hy with rfl | rfl | rfl | rfl <;> rfl
    exact ev_eq (ev_var rfl) (ev_var rfl) sc _ ⟨rfl, rfl⟩
  · have k3 : Same H2 (upd H2 D (.lst ([V.str "pile", .str "deed", .str "rule", .str "hand"].map fun v => .bl (decide (V.str w = v))))) := Same.new hD
    have g3 : (upd H2 D (.lst ([V.str "pile", .str "deed", .str "rule", .str "hand"].map fun v => .bl (decide (V.str w = v))))) D = some (.lst [.bl (decide (w = "pile")), .bl (decide (w = "deed")), .bl (decide (w = "rule")), .bl (decide (w = "hand"))]) := by
      rw [upd_same]
      simp only [List.map_cons, List.map_nil, dec_str]
    generalize upd H2 D (.lst ([V.str "pile", .str "deed", .str "rule", .str "hand"].map fun v => .bl (decide (V.str w = v)))) = H3 at k3 g3 ⊢
    refine ⟨_, _, .lst (SqL.of (k3 _ _ (k2 _ _ g1))) (.cons (.bl _) (.cons (.bl _) (.cons (.bl _) (.cons (.bl _) .nil)))), .lst (SqL.of g3) (.cons (.bl _) (.cons (.bl _) (.cons (.bl _) (.cons (.bl _) .nil)))), rfl, rfl, ?_⟩
    rw [is_four hi]
    exact q _ (Same.trans c2 k3)
end SS

set_option Elab.async false
set_option linter.all false
set_option maxRecDepth 100000
set_option maxHeartbeats 4000000
/-! BadPile; need_values and serial where they refuse. -/
namespace SS
open PySem L2 SX
local macro_rules | `(tactic| walk_at "q") => `(tactic| ((try dsimp only); refine s_seq ?_))
structure BpC (K : PySem.W.Frag) (C : Addr) : Prop where
  oex : OexC K C
  at_ : PySem.W.findIn K (.ref C) "at" = some none
abbrev bpF (n : Int) : List (Str × V) := [("at", .int n)]
def sp_BadPile (C : Addr) : Sp := fun vs H Q _ => ∃ (a : Addr) (n : Int), vs = [.ref a, .int n] ∧ H a = some (exo a C none) ∧ ∀ dx, H dx = none → dx ≠ a → Q .non (upd (upd H dx (exd dx (bpF n))) a (exo a C (some dx)))
/-- BadPile.__init__: 0 self, 1 at -/
def t_BadPile (K : PySem.W.Frag) : TS := tSeq (tDrop (tVeI K (tCons (tVar 0) (tCons (tC (.str "a bad value")) tNil)))) (tOst K "at" (tVar 0) (tVar 1))
theorem pure_BadPile {K : PySem.W.Frag} {C : Addr} (T : BpC K C) (vs : List V) (H : Hp) (Q : VK) (E : XK) (h : sp_BadPile C vs H Q E) : t_BadPile K { nx := fun _ H' => Q .non H', rt := Q } (start ["self", "at"] vs) H := by
  obtain ⟨a, n, rfl, ha, q⟩ := h
  unfold t_BadPile
  walk_at "q"
  refine s_drop' (ea_cons (ev_var (v := .ref a) rfl) (ea_cons ev_c ea_nil) _ ⟨a, C, _, rfl, by show 1 ≤ 1000; decide, T.oex, ha, ?_⟩)
  dsimp only
  refine ev_var (v := .int n) rfl _ (ev_var (v := .ref a) rfl _ ⟨a, C, rfl, T.oex, T.at_, .inl ⟨ha, fun dx hdx ne => ?_⟩⟩)
  exact q dx hdx ne
/-- raise BadPile(at) -/
def tRzP (C : Addr) (W : WX) (ta : TA) : TS := fun _ σ H => tMkO C (sp_BadPile C) [] ta σ H fun cls d H' => W cls d σ H'
theorem rz_pile {C : Addr} {W : WX} {ta : TA} {s : L2.St} {H : Hp} {D : Ends} {n : Int} (ha : EvA ta s H [.int n]) (q : ∀ d, H d = none → W (.ref C) (some d) s (upd H d (.xd (bpF n)))) : tRzP C W ta D s H := by
  refine ha _ ⟨by show 1 ≤ 1000; decide, fun a hna => ?_⟩
  refine ⟨a, n, rfl, upd_same, fun dx hdx ne => ⟨rfl, dx, bpF n, upd_same, ?_, ?_, ?_⟩⟩
  · rw [upd_ne ne]
    exact upd_same
  · rw [← hdx, upd_ne ne]
  · have hd : H dx = none := by rw [← hdx, upd_ne ne]
    have e : upd (del (upd (upd (upd H a (exo a C none)) dx (exd dx (bpF n))) a (exo a C (some dx))) a) dx (.xd (bpF n)) = upd H dx (.xd (bpF n)) := by
      funext b
      by_cases e1 : b = dx
      · rw [e1, upd_same, upd_same]
      · rw [upd_ne e1, upd_ne e1]
        by_cases e2 : b = a
        · rw [e2, del_same, hna]
        · rw [del_ne e2, upd_ne e2, upd_ne e1, upd_ne e2]
    rw [e]
    exact q dx hd
def ValBad (vs : List Int) (n : Nat) : Prop := (6 < vs.length ∧ n = 6) ∨ (vs.length ≤ 6 ∧ (∃ v, vs[n]? = some v ∧ ¬ okVal v) ∧ ∀ (j : Nat) (v : Int), j < n → vs[j]? = some v → okVal v)
def sp_need_valuesX (Z : Cs) (C : Addr) : Sp := fun vs H Q E => ∃ (a : Addr) (ns : List Int), vs = [.ref a] ∧ SqL Z.K H a (ns.map V.int) ∧ ns.length ≤ 1000 ∧
  (∀ n, ValBad ns n → ∀ d, H d = none → E (.ref C) (some d) (upd H d (.xd (bpF (n : Nat))))) ∧ ((ns.length ≤ 6 ∧ ∀ v ∈ ns, okVal v) → Q .non H)
def t_need_valuesX (Z : Cs) (C : Addr) (E : XK) : TS :=
  tSeq (tIfS (tTest (tOp rGtI (tCB (rLen1 Z.K) (tCons (tVar 0) tNil)) (tC (.int 6)))) (tRzP C (fun c d _ H => E c d H) (tCons (tC (.int 6)) tNil)) (tNext))
    ((tFor (iRng1 (tCons (tCB (rLen1 Z.K) (tCons (tVar 0) tNil)) tNil)) (gName 1) ((tIfS (tNot (tTest (tChain rLeI rLeI (tC (.int 0)) (tOp (rIxL Z.K) (tVar 0) (tVar 1)) (tC (.int 99))))) (tRzP C (fun c d _ H => E c d H) (tCons (tVar 1) tNil)) (tNext)))))
theorem pure_need_valuesX {Z : Cs} {C : Addr} (vs : List V) (H : Hp) (Q : VK) (E : XK) (h : sp_need_valuesX Z C vs H Q E) : t_need_valuesX Z C E { nx := fun _ H' => Q .non H', rt := Q } (start ["values", "at"] vs) H := by
  obtain ⟨a, ns, rfl, ha, hl, qb, qg⟩ := h
  have len : ∀ {s : L2.St}, s[0]? = some (some (.ref a)) → Ev (tCB (rLen1 Z.K) (tCons (tVar 0) tNil)) s H (.int (ns.length : Nat)) := fun e => ev_is (ev_lenL (ev_var e) ha) (by rw [List.length_map])
  unfold t_need_valuesX
  walk_at "q"
  by_cases h6 : 6 < ns.length
  · refine s_ifT (et_is (et_test (ev_gt (len rfl) ev_c)) (decide_eq_true (by omega))) ?_
    exact rz_pile (n := 6) (ea_cons ev_c ea_nil) fun d hd => qb 6 (.inl ⟨h6, rfl⟩) d hd
  refine s_ifF (et_is (et_test (ev_gt (len rfl) ev_c)) (decide_eq_false (by omega))) ?_
  dsimp only [tNext]
  refine s_forR (n := ns.length) (len rfl) (by omega) (fun i s' H' => H' = H ∧ (∀ (j : Nat) (x : Int), j < i → ns[j]? = some x → okVal x) ∧ ∃ w, s' = [some (.ref a), w]) ⟨rfl, fun j x hj => by omega, none, rfl⟩ (fun i s' H' hi z => ?_) (fun s' H' z => ?_)
  · obtain ⟨rfl, hg, w, rfl⟩ := z
    have hx : ns[i]? = some ns[i] := List.getElem?_eq_getElem hi
    generalize ns[i] = x at hx
    have ex : Ev (tOp (rIxL Z.K) (tVar 0) (tVar 1)) [some (V.ref a), some (.int (i : Int))] H' (.int x) := ev_ixL (ev_var rfl) (ev_var (v := .int (i : Int)) rfl) ha (atI_nat (by rw [List.getElem?_map, hx]; rfl))
    refine s_if (et_not (et_test (ev_leLe ev_c ex ev_c))) (fun e => ?_) fun e => ?_
    · refine rz_pile (n := (i : Int)) (ea_cons (ev_var rfl) ea_nil) fun d hd => qb i (.inr ⟨by omega, ⟨x, hx, fun ok => ?_⟩, hg⟩) d hd
      have o1 : 0 ≤ x := ok.1
      have o2 : x ≤ 99 := ok.2
      rw [decide_eq_true o1, decide_eq_true o2] at e
      cases e
    · refine ⟨rfl, fun j y hj hy => ?_, _, rfl⟩
      by_cases ej : j = i
      · rw [ej, hx] at hy
        cases hy
        rw [Bool.not_eq_false', Bool.and_eq_true] at e
        exact ⟨of_decide_eq_true e.1, of_decide_eq_true e.2⟩
      · exact hg j y (by omega) hy
  · obtain ⟨rfl, hg, w, rfl⟩ := z
    refine qg ⟨by omega, fun x hx => ?_⟩
    obtain ⟨j, hj⟩ := List.mem_iff_getElem?.mp hx
    exact hg j x (List.getElem?_eq_some_iff.mp hj).1 hj
theorem val_bad {vs : List Int} {n n' : Nat} (h : ValBad vs n) (h' : ValBad vs n') : n = n' := by
  rcases h with ⟨a, rfl⟩ | ⟨a, ⟨v, b, c⟩, f⟩ <;> rcases h' with ⟨a', rfl⟩ | ⟨a', ⟨v', b', c'⟩, f'⟩
  · rfl
  · omega
  · omega
  · rcases Nat.lt_trichotomy n n' with z | z | z
    · exact absurd (f' n v z b) c
    · exact z
    · exact absurd (f n' v' z b') c'
theorem val_not {vs : List Int} {n : Nat} (h : ValBad vs n) : ¬ (vs.length ≤ 6 ∧ ∀ v ∈ vs, okVal v) := fun g => by
  rcases h with ⟨a, _⟩ | ⟨_, ⟨v, b, c⟩, _⟩
  · have := g.1
    omega
  · exact c (g.2 v (List.mem_of_getElem? b))
theorem first_not {xss : List (List V)} {n : Nat} (h : FirstBad xss n) : ¬ ∀ x ∈ xss, isDeedV x = true := fun g => by
  obtain ⟨⟨x, a, b⟩, _⟩ := h
  rw [g x (List.mem_of_getElem? a)] at b
  cases b

theorem first_bad1 {xss : List (List V)} {n m : Nat} (h : FirstBad xss n) (g : FirstBad xss m) : n = m := by
  obtain ⟨⟨x, a, b⟩, c⟩ := h
  obtain ⟨⟨y, a1, b1⟩, c1⟩ := g
  rcases Nat.lt_trichotomy n m with z | z | z
  · have := c1 n x z a
    rw [b] at this
    cases this
  · exact z
  · have := c m y z a1
    rw [b1] at this
    cases this
def sp_serialX (Z : Cs) (CP CB : Addr) : Sp := fun vs H Q E => ∃ (lv : Addr) (v : V) (values : List Int) (xss : List (List V)), vs = [.ref lv, v] ∧ SqL Z.K H lv (values.map V.int) ∧ values.length ≤ 1000 ∧ RowAny H v xss ∧
  ((∃ n, ValBad values n ∧ ∀ d, H d = none → E (.ref CP) (some d) (upd H d (.xd (bpF (n : Nat))))) ∨ ((values.length ≤ 6 ∧ ∀ v ∈ values, okVal v) ∧ ∃ n, FirstBad xss n ∧ ∀ d, H d = none → E (.ref CB) (some d) (upd H d (.xd (bdF 0 (n : Nat))))))
def t_serialX (Z : Cs) (CP CB : Addr) (E : XK) (rest : TS) : TS :=
  tSeq (tDrop (tCallS (sp_need_valuesX Z CP) (fun _ => E) (tCons (tVar 0) tNil))) (tSeq (tDrop (tCallS (sp_need_deedsX Z CB) (fun _ => E) (tCons (tVar 1) (tCons (tC (.int 0)) tNil)))) rest)
theorem pure_serialX {Z : Cs} {CP CB : Addr} {rest : TS} (vs : List V) (H : Hp) (Q : VK) (E : XK) (h : sp_serialX Z CP CB vs H Q E) : t_serialX Z CP CB E rest { nx := fun _ H' => Q .non H', rt := Q } (start ["values", "deeds", "now", "answers", "deed"] vs) H := by
  obtain ⟨lv, v, values, xss, rfl, hv, hl, hx, q⟩ := h
  unfold t_serialX
  walk_at "q"
  refine s_drop' (ea_cons (ev_var (v := .ref lv) rfl) ea_nil _ ⟨lv, values, rfl, hv, hl, fun n hn d hd => ?_, fun hg => ?_⟩)
  · rcases q with ⟨n', hn', q⟩ | ⟨hg, _⟩
    · rw [val_bad hn hn']
      exact q d hd
    · exact absurd hg (val_not hn)
  · rcases q with ⟨n', hn', q⟩ | ⟨_, n', hn', q⟩
    · exact absurd hg (val_not hn')
    · walk_at "q"
      refine s_drop' (ea_cons (ev_var (v := v) rfl) (ea_cons ev_c ea_nil) _ ⟨v, 0, xss, rfl, hx, fun n hn d hd => ?_, fun hgood => absurd hgood (first_not hn')⟩)
      rw [first_bad1 hn hn']
      exact q d hd
end SS

set_option Elab.async false
set_option linter.all false
set_option maxRecDepth 100000
set_option maxHeartbeats 4000000
/-! k01: `_law_told`. -/
namespace SX
open PySem PySem.Spec PyProof.Rows L2 L2H HotX
/-- a call in the suite, with the caught exception's own object -/
def tCallPs (a : Addr) (cls : Value) (d : Option Addr) (sp : SpP) (E : L2.St → XK) (t : TA) : TE := fun σ H Q => ∀ oe : Obj, oe.cls = cls → oe.dict = d → (∃ vs, oe.data = .fields vs) → tCallP (a, oe) sp E t σ H Q
theorem pe_callPs {X : Cx} {CX : CXT} {k : Nat} {f a : Addr} {fd : FuncData} {ps : List Str} {sp : SpP} {E : L2.St → XK} {x : Str} {q pos : Pos} {e : Expr} {es : List Expr} {t : TA} {oe : Obj} {cls : Value} {d : Option Addr} {pn : List (Addr × Obj)} (hz : L2N.Zn cls d oe) (hf : ∃ vs, oe.data = .fields vs)
    (F : FnP X.prog X.w X.K X.mg X.base CX k f fd ps sp) (room : Room k X.A) (hg : Gl (X.suite a ((a, oe) :: pn)) x) (hm : X.mg x = some (.ref f)) (kp : PySem.W.keepIn X.K (.ref f) = true) (bnd : Binds X.K fd ps []) (pass : ∀ σ, PassesAt CX (X.suite a ((a, oe) :: pn)) σ (E σ))
    (args : PA (X.suite a ((a, oe) :: pn)) (e :: es) t) (hdb : (x == ("__debug__" : Str)) = false := by decide) (he : starEach (e :: es) X.env = (false, eval e X.env) :: starEach es X.env := by rfl) (hpl : (backTo pos (starEach es X.env)).any (·.1) = false := by rfl) :
    PE (X.suite a ((a, oe) :: pn)) (.Call (.Name x q) (e :: es) [] pos) (tCallPs a cls d sp E t) := by
  obtain ⟨vs, ed⟩ := hf
  have hot : Hot1 (X.suite a ((a, oe) :: pn)).A (a, oe) := ⟨rfl, vs, ed, hz.2.2 vs ed⟩
  have r := pe_callP (X := X.suite a ((a, oe) :: pn)) (pin := (a, oe)) (q := q) (pos := pos) F (roomH_mark room _) hot List.mem_cons_self hg hm kp bnd pass args hdb he hpl
  exact ⟨fun pins s σ H Q I red => r.run pins s σ H Q I (red oe hz.1 hz.2.1 ⟨vs, ed⟩)⟩
end SX
namespace SS
open PySem L2 SX
local macro_rules | `(tactic| walk_at "q") => `(tactic| ((try dsimp only); refine s_seq ?_))
def sp_L_told (Z : Cs) : Sp := fun vs H Q _ => ∃ (lv : Addr) (v : V) (values : List Int) (xss : List (List V)), vs = [.ref lv, v] ∧ SqL Z.K H lv (values.map V.int) ∧ values.length ≤ 1000 ∧ RowAny H v xss ∧
  ((∃ n, ValBad values n ∧ ∀ l H', Same H H' → H' l = some (.lst [.str "pile", .int (n : Nat)]) → Q (.ref l) H') ∨
    ((values.length ≤ 6 ∧ ∀ v ∈ values, okVal v) ∧ ∃ n, FirstBad xss n ∧ ∀ l H', Same H H' → H' l = some (.lst [.str "deed", .int 0, .int (n : Nat)]) → Q (.ref l) H'))
def tb_L_told (Z : Cs) (c : Nat → Addr) (W : WX) : TS := tRet (tCallS (sp_serialX Z (c 0) (c 1)) (WE W) (tCons (tVar 0) (tCons (tVar 1) tNil)))
def ts_L_told (c : Nat → Addr) : Addr → Value → Option Addr → TS := fun a cls d =>
  tSeq (tIfS (tB (tCallPs a cls d (sp_L_is c) (fun _ => E0) (tCons (tVar 2) (tCons (tC (.str "pile")) tNil)))) (tRet (tLst (tCons (tC (.str "pile")) (tCons (tXf a cls d (c 0) "at" (tVar 2)) tNil)))) tNext)
    (tRet (tIf (tB (tCallPs a cls d (sp_L_is c) (fun _ => E0) (tCons (tVar 2) (tCons (tC (.str "deed")) tNil)))) (tLst (tCons (tC (.str "deed")) (tCons (tXf a cls d (c 1) "hand" (tVar 2)) (tCons (tXf a cls d (c 1) "number" (tVar 2)) tNil)))) (tC .non)))
/-- _law_told: 0 _law_values_here, 1 _law_deeds, 2 _law_e -/
def t_L_told (Z : Cs) (c : Nat → Addr) (CE : Addr) : TS := fun D σ H => tb_L_told Z c (wAs Z.K (.ref CE) 2 (ts_L_told c) (fun _ _ _ _ => False) D) D σ H
theorem t_ifE_ {t : TT} {ta tb : TE} {s : L2.St} {H : Hp} {Q : VK} (h : t s H fun b H1 => if b = true then ta s H1 Q else tb s H1 Q) : tIf t ta tb s H Q := h
theorem pure_L_told {Z : Cs} {c : Nat → Addr} {CE : Addr} (t0 : PySem.W.exmOne Z.K (.ref (c 0)) (.ref CE) = some true) (t1 : PySem.W.exmOne Z.K (.ref (c 1)) (.ref CE) = some true) (vs : List V) (H : Hp) (Q : VK) (E : XK) (h : sp_L_told Z vs H Q E) :
    t_L_told Z c CE { nx := fun _ H' => Q .non H', rt := Q } (start ["_law_values_here", "_law_deeds", "_law_e"] vs) H := by
  obtain ⟨lv, v, values, xss, rfl, hv, hl, hx, q⟩ := h
  unfold t_L_told tb_L_told
  refine s_ret_of (ea_cons (ev_var (v := .ref lv) rfl) (ea_cons (ev_var (v := v) rfl) ea_nil) _ ⟨lv, v, values, xss, rfl, hv, hl, hx, ?_⟩)
  rcases q with ⟨n, hn, q⟩ | ⟨hg, n, hn, q⟩
  · refine .inl ⟨n, hn, fun d hd => ⟨true, t0, fun _ a ha => ?_, fun z => by cases z⟩⟩
    have k1 : Same H (upd H d (.xd (bpF (n : Nat)))) := Same.new hd
    have g1 : (upd H d (.xd (bpF (n : Nat)))) d = some (.xd (bpF (n : Nat))) := upd_same
    generalize upd H d (.xd (bpF (n : Nat))) = H1 at k1 g1 ha ⊢
    unfold ts_L_told
    walk_at "q"
    refine s_if_of (t_B_of fun oe e1 e2 e3 => ea_cons (ev_var (v := .ref a) rfl) (ea_cons ev_c ea_nil) _ ⟨0, "pile", by omega, rfl, ⟨e1, e3, .inr ⟨d, _, e2, g1⟩⟩, fun H2 k2 => ⟨true, congrArg V.bl (decide_eq_true (show ("pile" : Str) = word4 0 from rfl)), iteT ?_⟩⟩)
    refine s_ret_of (t_lst_of (t_cons_of (ev_c _ (t_cons_of (ev_var (v := .ref a) rfl _ ⟨rfl, rfl, d, _, .int (n : Nat), rfl, k2 _ _ g1, by kernel_rfl, ⟨by show 2 ≤ sizeLine; decide, fun p hp => ?_⟩⟩)))))
    exact q p _ (Same.trans (Same.trans k1 k2) (Same.new hp)) upd_same
  · refine .inr ⟨hg, n, hn, fun d hd => ⟨true, t1, fun _ a ha => ?_, fun z => by cases z⟩⟩
    have k1 : Same H (upd H d (.xd (bdF 0 (n : Nat)))) := Same.new hd
    have g1 : (upd H d (.xd (bdF 0 (n : Nat)))) d = some (.xd (bdF 0 (n : Nat))) := upd_same
    generalize upd H d (.xd (bdF 0 (n : Nat))) = H1 at k1 g1 ha ⊢
    unfold ts_L_told
    walk_at "q"
    refine s_if_of (t_B_of fun oe e1 e2 e3 => ea_cons (ev_var (v := .ref a) rfl) (ea_cons ev_c ea_nil) _ ⟨1, "pile", by omega, rfl, ⟨e1, e3, .inr ⟨d, _, e2, g1⟩⟩, fun H2 k2 => ⟨false, congrArg V.bl (decide_eq_false (show ("pile" : Str) ≠ word4 1 by decide +kernel)), iteF ?_⟩⟩)
    dsimp only [tNext]
    have g2 := k2 _ _ g1
    refine s_ret_of (t_ifE_ (t_B_of fun oe e1 e2 e3 => ea_cons (ev_var (v := .ref a) rfl) (ea_cons ev_c ea_nil) _ ⟨1, "deed", by omega, rfl, ⟨e1, e3, .inr ⟨d, _, e2, g2⟩⟩, fun H3 k3 => ⟨true, congrArg V.bl (decide_eq_true (show ("deed" : Str) = word4 1 from rfl)), iteT ?_⟩⟩))
    have g3 := k3 _ _ g2
    refine t_lst_of (t_cons_of (ev_c _ (t_cons_of (ev_var (v := .ref a) rfl _ ⟨rfl, rfl, d, _, .int 0, rfl, g3, by kernel_rfl, t_cons_of (ev_var (v := .ref a) rfl _ ⟨rfl, rfl, d, _, .int (n : Nat), rfl, g3, by kernel_rfl, ⟨by show 3 ≤ sizeLine; decide, fun p hp => ?_⟩⟩)⟩))))
    exact q p _ (Same.trans (Same.trans k1 (Same.trans k2 k3)) (Same.new hp)) upd_same
end SS

set_option Elab.async false
set_option linter.all false
set_option maxRecDepth 100000
set_option maxHeartbeats 4000000
namespace SS
open PySem L2
local macro_rules | `(tactic| walk_at "q") => `(tactic| ((try dsimp only); refine s_seq ?_))

/-- no list too long -/
inductive Small : PyData → Prop
  | none : Small .none
  | bool (b : Bool) : Small (.bool b)
  | int (i : Int) : Small (.int i)
  | str (x : Str) : Small (.str x)
  | list {ds : List PyData} : ds.length ≤ 1000000 → (∀ d ∈ ds, Small d) → Small (.list ds)
  | tuple {ds : List PyData} : ds.length ≤ 1000000 → (∀ d ∈ ds, Small d) → Small (.tuple ds)
def sp_L_like (Z : Cs) (n : Nat) : Sp := fun vs H Q _ => ∃ (x y : V) (d : PyData), vs = [x, y] ∧ Dp Z.K H x d ∧ Dp Z.K H y d ∧ d.canLay0 = true ∧ d.depth < n ∧ n ≤ 60 ∧ Small d ∧ Q (.bl true) H
theorem len_L_like {Z : Cs} {n : Nat} {vs : List V} {H : Hp} {Q : VK} {E : XK} (h : sp_L_like Z n vs H Q E) : vs.length = 2 := by
  obtain ⟨_, _, _, rfl, _⟩ := h
  rfl
/-- _law_like: 0 _law_found, 1 _law_due, 2 _law_key, 3 _law_k -/
def t_L_like (Z : Cs) (n : Nat) : TS :=
  tSeq (tIfS (tB (tCB (rIsi Z.K) (tCons (tVar 1) (tCons (tC (.ty "bool")) tNil)))) ((tRet (tAndV (tCB (rIsi Z.K) (tCons (tVar 0) (tCons (tC (.ty "bool")) tNil))) (tOp (rEqD Z.K) (tVar 0) (tVar 1))))) (tNext))
    (tSeq (tIfS (tB (tCB (rIsi Z.K) (tCons (tVar 1) (tCons (tC (.ty "str")) tNil)))) ((tRet (tAndV (tCB (rIsi Z.K) (tCons (tVar 0) (tCons (tC (.ty "str")) tNil))) (tOp (rEqD Z.K) (tVar 0) (tVar 1))))) (tNext))
    (tSeq (tIfS (tB (tCB (rIsi Z.K) (tCons (tVar 1) (tCons (tC (.ty "int")) tNil)))) ((tRet (tAndV (tCB (rIsi Z.K) (tCons (tVar 0) (tCons (tC (.ty "int")) tNil))) (tAndV (tNotV (tCB (rIsi Z.K) (tCons (tVar 0) (tCons (tC (.ty "bool")) tNil)))) (tOp (rEqD Z.K) (tVar 0) (tVar 1)))))) (tNext))
    (tSeq (tIfS (tTest (tOp rIsN (tVar 1) (tC .non))) ((tRet (tOp rIsN (tVar 0) (tC .non)))) (tNext))
    (tSeq (tIfS (tB (tCB (rIsi Z.K) (tCons (tVar 1) (tCons (tC (.ty "dict")) tNil)))) (tSeq tNever tNever) (tNext))
    (tSeq (tIfS ((tOr (tTest (tOp rNe (tCB (rIsi Z.K) (tCons (tVar 1) (tCons (tC (.ty "tuple")) tNil))) (tCB (rIsi Z.K) (tCons (tVar 0) (tCons (tC (.ty "tuple")) tNil))))) (tTest (tOp rNe (tCB (rIsi Z.K) (tCons (tVar 1) (tCons (tC (.ty "list")) tNil))) (tCB (rIsi Z.K) (tCons (tVar 0) (tCons (tC (.ty "list")) tNil))))))) ((tRet (tC (.bl false)))) (tNext))
    (tSeq (tIfS (tTest (tOp rNe (tCB (rLen1 Z.K) (tCons (tVar 0) tNil)) (tCB (rLen1 Z.K) (tCons (tVar 1) tNil)))) ((tRet (tC (.bl false)))) (tNext))
    (tSeq (tFor (iRng1 (tCons (tCB (rLen1 Z.K) (tCons (tVar 1) tNil)) tNil)) (gName 3) ((tIfS (tNot (tB (tCall (sp_L_like Z n) [] E0 (tCons (tOp (rIx Z.K) (tVar 0) (tVar 3)) (tCons (tOp (rIx Z.K) (tVar 1) (tVar 3)) tNil))))) ((tRet (tC (.bl false)))) (tNext))))
    ((tRet (tC (.bl true)))))))))))

def dT : PyData → String
  | .none => "NoneType"
  | .bool _ => "bool"
  | .int _ => "int"
  | .str _ => "str"
  | .list _ => "list"
  | .tuple _ => "tuple"
  | .dict _ => "dict"
theorem ty_ofD {K : PySem.W.Frag} {H : Hp} {x : V} {d : PyData} (h : Dp K H x d) : TyX K H x (.type (dT d)) := by
  cases h with
  | non => exact .base .non
  | bl b => exact .base (.bl b)
  | int i => exact .base (.int i)
  | str x => exact .base (.str x)
  | lst hs ha =>
    rcases hs with (hs | ⟨o, hs⟩) | ⟨o, _, _, h1, h2, _⟩
    · exact .base (.lst hs)
    · exact .base (.frz hs)
    · exact .kList h1 h2
  | tup hs ha =>
    rcases hs with (hs | ⟨o, hs⟩) | ⟨o, _, _, h1, h2, _⟩
    · exact .base (.tup hs)
    · exact .fTuple hs
    · exact .kTuple h1 h2
section
variable {K : PySem.W.Frag} {s : L2.St} {H : Hp} {ta tb : TE} {x : V} {d : PyData}
theorem ev_isi {T : String} {b : Bool} (e : Ev ta s H x) (h : Dp K H x d) (hk : kitB (dT d) T = some b) : Ev (tCB (rIsi K) (tCons ta (tCons (tC (.ty T)) tNil))) s H (.bl b) :=
  fun Q q => e _ ⟨x, .ty T, .type (dT d), .type T, b, rfl, .ty T, ty_ofD h, kit_ty hk, q⟩
theorem ev_ixD {p : Addr} {i : Nat} {xs : List V} {v : V} (ha : Ev ta s H (.ref p)) (hb : Ev tb s H (.int (i : Int))) (h : SqL K H p xs ∨ SqT K H p xs) (hv : xs[i]? = some v) : Ev (tOp (rIx K) ta tb) s H v := fun Q q => ha _ (hb _ (by
  rcases h with h | h
  · exact .inl ⟨p, xs, _, v, rfl, rfl, h, atI_nat hv, q⟩
  · exact .inr (.inl ⟨p, xs, _, v, rfl, rfl, h, atI_nat hv, q⟩)))
theorem ev_lenD {p : Addr} {xs : List V} (ha : Ev ta s H (.ref p)) (h : SqL K H p xs ∨ SqT K H p xs) : Ev (tCB (rLen1 K) (tCons ta tNil)) s H (.int xs.length) := fun _ q => ha _ ⟨p, xs, rfl, h, q⟩
end
theorem lay_mem : ∀ {ds : List PyData} {d : PyData}, d ∈ ds → PyData.canLayAll0 ds = true → d.canLay0 = true ∧ d.depth ≤ PyData.depthAll ds
  | [], _, h, _ => by cases h
  | e :: ds, d, h, c => by
    simp only [PyData.canLayAll0, Bool.and_eq_true] at c
    simp only [PyData.depthAll]
    rcases List.mem_cons.mp h with rfl | h
    · exact ⟨c.1, Nat.le_max_left _ _⟩
    · obtain ⟨h1, h2⟩ := lay_mem h c.2
      exact ⟨h1, Nat.le_trans h2 (Nat.le_max_right _ _)⟩
theorem t_notL {t : TT} {s : L2.St} {H : Hp} {Q : Bool → Hp → Prop} (h : t s H fun c H1 => Q (!c) H1) : tNot t s H Q := h
/-- the walk through the items of two that are alike -/
theorem like_loop {Z : Cs} {n : Nat} {x y : Addr} {xs ys : List V} {ds : List PyData} {H : Hp} {s : L2.St} (hn : n ≤ 60) (hs : s = [some (.ref x), some (.ref y), none, none]) (hx : SqL Z.K H x xs ∨ SqT Z.K H x xs) (hy : SqL Z.K H y ys ∨ SqT Z.K H y ys) (dx : DpAll Z.K H xs ds) (dy : DpAll Z.K H ys ds) (cl : PyData.canLayAll0 ds = true) (hd : PyData.depthAll ds < n) (hz : ds.length ≤ 1000000) (sm : ∀ d ∈ ds, Small d)
    (D : Ends) (hD : ∀ s', D.nx s' H) : tFor (iRng1 (tCons (tCB (rLen1 Z.K) (tCons (tVar 1) tNil)) tNil)) (gName 3) ((tIfS (tNot (tB (tCall (sp_L_like Z n) [] E0 (tCons (tOp (rIx Z.K) (tVar 0) (tVar 3)) (tCons (tOp (rIx Z.K) (tVar 1) (tVar 3)) tNil))))) ((tRet (tC (.bl false)))) (tNext))) D s H := by
  subst hs
  have l1 := dp_len dx
  have l2 := dp_len dy
  refine s_forR (n := ds.length) (ev_is (ev_lenD (ev_var rfl) hy) (by rw [l2])) hz (fun i s' H' => H' = H ∧ ∃ z, s' = [some (.ref x), some (.ref y), none, z]) ⟨rfl, none, rfl⟩ (fun i s' H' hi p => ?_) (fun s' H' p => ?_)
  · obtain ⟨rfl, z, rfl⟩ := p
    have hdi : ds[i]? = some ds[i] := List.getElem?_eq_getElem hi
    obtain ⟨vx, hvx, px⟩ := dp_get i dx hdi
    obtain ⟨vy, hvy, py⟩ := dp_get i dy hdi
    obtain ⟨c1, c2⟩ := lay_mem (List.mem_of_getElem? hdi) cl
    dsimp only [gName]
    refine s_if_of (t_notL (t_B_of (s_call (ea_cons (ev_ixD (ev_var rfl) (ev_var rfl) hx hvx) (ea_cons (ev_ixD (ev_var rfl) (ev_var rfl) hy hvy) ea_nil)) ⟨vx, vy, ds[i], rfl, px, py, c1, by omega, hn, sm _ (List.mem_of_getElem? hdi), ⟨true, rfl, iteF ?_⟩⟩)))
    exact ⟨rfl, _, rfl⟩
  · obtain ⟨rfl, _⟩ := p
    exact hD s'
theorem pure_L_like {Z : Cs} {n : Nat} (vs : List V) (H : Hp) (Q : VK) (E : XK) (h : sp_L_like Z (n + 1) vs H Q E) : t_L_like Z n { nx := fun _ H' => Q .non H', rt := Q } (start ["_law_found", "_law_due", "_law_key", "_law_k"] vs) H := by
  obtain ⟨x, y, d, rfl, hx, hy, cl, hd, hn, sm, q⟩ := h
  have sh : SeqAt.shaped d = true := by
    show (d.canLay0 && decide (d.depth ≤ 64)) = true
    rw [cl, decide_eq_true (by omega)]
    rfl
  have EQ : Ev (tOp (rEqD Z.K) (tVar 0) (tVar 1)) (start ["_law_found", "_law_due", "_law_key", "_law_k"] [x, y]) H (.bl true) := ev_is (ev_eqD (ev_var rfl) (ev_var rfl) hx hy sh sh) (by rw [SeqAt.eqv_refl d cl])
  have I0 : ∀ (T : String) (b : Bool), kitB (dT d) T = some b → Ev (tCB (rIsi Z.K) (tCons (tVar 0) (tCons (tC (.ty T)) tNil))) (start ["_law_found", "_law_due", "_law_key", "_law_k"] [x, y]) H (.bl b) := fun T b hk => ev_isi (ev_var rfl) hx hk
  have I1 : ∀ (T : String) (b : Bool), kitB (dT d) T = some b → Ev (tCB (rIsi Z.K) (tCons (tVar 1) (tCons (tC (.ty T)) tNil))) (start ["_law_found", "_law_due", "_law_key", "_law_k"] [x, y]) H (.bl b) := fun T b hk => ev_isi (ev_var rfl) hy hk
  unfold t_L_like
  walk_at "q"
  cases d with
  | bool b =>
    refine s_ifT (et_B (I1 "bool" true (by kernel_rfl))) ?_
    exact s_ret (ev_is (ev_andV (I0 "bool" true (by kernel_rfl)) fun _ => EQ) rfl) q
  | str z =>
    refine s_ifF (et_B (I1 "bool" false (by kernel_rfl))) ?_
    dsimp only [tNext]
    walk_at "q"
    refine s_ifT (et_B (I1 "str" true (by kernel_rfl))) ?_
    exact s_ret (ev_is (ev_andV (I0 "str" true (by kernel_rfl)) fun _ => EQ) rfl) q
  | int i =>
    refine s_ifF (et_B (I1 "bool" false (by kernel_rfl))) ?_
    dsimp only [tNext]
    walk_at "q"
    refine s_ifF (et_B (I1 "str" false (by kernel_rfl))) ?_
    dsimp only [tNext]
    walk_at "q"
    refine s_ifT (et_B (I1 "int" true (by kernel_rfl))) ?_
    exact s_ret (ev_is (ev_andV (I0 "int" true (by kernel_rfl)) fun _ => ev_andV (ev_notV (I0 "bool" false (by kernel_rfl))) fun _ => EQ) rfl) q
  | none =>
    cases hx
    cases hy
    refine s_ifF (et_B (I1 "bool" false (by kernel_rfl))) ?_
    dsimp only [tNext]
    walk_at "q"
    refine s_ifF (et_B (I1 "str" false (by kernel_rfl))) ?_
    dsimp only [tNext]
    walk_at "q"
    refine s_ifF (et_B (I1 "int" false (by kernel_rfl))) ?_
    dsimp only [tNext]
    walk_at "q"
    refine s_ifT (et_is (et_test (ev_isN (ev_var rfl))) (decide_eq_true rfl)) ?_
    exact s_ret (ev_is (ev_isN (ev_var rfl)) (by rw [decide_eq_true rfl])) q
  | list ds =>
    cases hx with
    | @lst ax xs _ sx ax' =>
    cases hy with
    | @lst ay ys _ sy ay' =>
    obtain ⟨hz, sm'⟩ : ds.length ≤ 1000000 ∧ ∀ d ∈ ds, Small d := by
      cases sm with
      | list h1 h2 => exact ⟨h1, h2⟩
    have clx : PyData.canLayAll0 ds = true := by simpa only [PyData.canLay0] using cl
    simp only [PyData.depth] at hd
    refine s_ifF (et_B (I1 "bool" false (by kernel_rfl))) ?_
    dsimp only [tNext]
    walk_at "q"
    refine s_ifF (et_B (I1 "str" false (by kernel_rfl))) ?_
    dsimp only [tNext]
    walk_at "q"
    refine s_ifF (et_B (I1 "int" false (by kernel_rfl))) ?_
    dsimp only [tNext]
    walk_at "q"
    refine s_ifF (et_is (et_test (ev_isN (ev_var rfl))) (decide_eq_false (fun z => by cases z))) ?_
    dsimp only [tNext]
    walk_at "q"
    refine s_ifF (et_B (I1 "dict" false (by kernel_rfl))) ?_
    dsimp only [tNext]
    walk_at "q"
    refine s_ifF (et_is (et_or (et_test (ev_ne (I1 "tuple" false (by kernel_rfl)) (I0 "tuple" false (by kernel_rfl)) rfl)) fun _ => et_test (ev_ne (I1 "list" true (by kernel_rfl)) (I0 "list" true (by kernel_rfl)) rfl)) rfl) ?_
    dsimp only [tNext]
    walk_at "q"
    refine s_ifF (et_is (et_test (ev_ne (ev_lenD (ev_var rfl) (.inl sx)) (ev_lenD (ev_var rfl) (.inl sy)) rfl)) (by rw [dp_len ax', dp_len ay', decide_eq_true rfl]; rfl)) ?_
    dsimp only [tNext]
    walk_at "q"
    exact like_loop (by omega) rfl (.inl sx) (.inl sy) ax' ay' clx (by omega) hz sm' _ fun s' => (by dsimp only; exact s_ret ev_c q)
  | tuple ds =>
    cases hx with
    | @tup ax xs _ sx ax' =>
    cases hy with
    | @tup ay ys _ sy ay' =>
    obtain ⟨hz, sm'⟩ : ds.length ≤ 1000000 ∧ ∀ d ∈ ds, Small d := by
      cases sm with
      | tuple h1 h2 => exact ⟨h1, h2⟩
    have clx : PyData.canLayAll0 ds = true := by simpa only [PyData.canLay0] using cl
    simp only [PyData.depth] at hd
    refine s_ifF (et_B (I1 "bool" false (by kernel_rfl))) ?_
    dsimp only [tNext]
    walk_at "q"
    refine s_ifF (et_B (I1 "str" false (by kernel_rfl))) ?_
    dsimp only [tNext]
    walk_at "q"
    refine s_ifF (et_B (I1 "int" false (by kernel_rfl))) ?_
    dsimp only [tNext]
    walk_at "q"
    refine s_ifF (et_is (et_test (ev_isN (ev_var rfl))) (decide_eq_false (fun z => by cases z))) ?_
    dsimp only [tNext]
    walk_at "q"
    refine s_ifF (et_B (I1 "dict" false (by kernel_rfl))) ?_
    dsimp only [tNext]
    walk_at "q"
    refine s_ifF (et_is (et_or (et_test (ev_ne (I1 "tuple" true (by kernel_rfl)) (I0 "tuple" true (by kernel_rfl)) rfl)) fun _ => et_test (ev_ne (I1 "list" false (by kernel_rfl)) (I0 "list" false (by kernel_rfl)) rfl)) rfl) ?_
    dsimp only [tNext]
    walk_at "q"
    refine s_ifF (et_is (et_test (ev_ne (ev_lenD (ev_var rfl) (.inr sx)) (ev_lenD (ev_var rfl) (.inr sy)) rfl)) (by rw [dp_len ax', dp_len ay', decide_eq_true rfl]; rfl)) ?_
    dsimp only [tNext]
    walk_at "q"
    exact like_loop (by omega) rfl (.inr sx) (.inr sy) ax' ay' clx (by omega) hz sm' _ fun s' => (by dsimp only; exact s_ret ev_c q)
  | dict _ => cases hx
end SS

set_option Elab.async false
set_option linter.all false
set_option maxRecDepth 100000
set_option maxHeartbeats 4000000
/-! Lambdas that are kept and called later: the cells that they captured stand in the picture of the heap as known objects; while the body runs they are out of it. -/
namespace SX
open PySem PySem.Spec PyProof.Rows L2 LamX NdefX
abbrev Cells := Addr → Option Obj
/-- the cells as known objects -/
def put (C : Cells) (H : Hp) : Hp := fun b => match C b with
  | some o => some (.frz o (.own 0))
  | none => H b
def cut (C : Cells) (H : Hp) : Hp := fun b => if (C b).isSome then none else H b
section
variable {P : Program} {w : World} {C : Cells} {H H' : Hp} {b c : Addr} {o : Obj} {u : HO} {h h' B : Heap} {fs ex : List Addr}
theorem put_at (e : C c = some o) : put C H c = some (.frz o (.own 0)) := by
  unfold put
  rw [e]
theorem put_out (e : C c = none) : put C H c = H c := by
  unfold put
  rw [e]
theorem cut_at (e : C c = some o) : cut C H c = none := by
  unfold cut
  rw [e]
  rfl
theorem cut_out (e : C c = none) : cut C H c = H c := by
  unfold cut
  rw [e]
  rfl
theorem cut_some (e : cut C H b = some u) : C b = none ∧ H b = some u := by
  cases q : C b with
  | none => exact ⟨rfl, (cut_out q).symm.trans e⟩
  | some o =>
    rw [cut_at q] at e
    cases e
theorem hok_cut (ok : HOk P w H h) (k : ∀ c o, C c = some o → H c = none ∨ H c = some (.frz o (.own 0))) : HOk P w (cut C H) h := fun b u e => by
  obtain ⟨_, e1⟩ := cut_some e
  have stays : ∀ c v, H c = some v → (∀ o, v ≠ .frz o (.own 0)) → cut C H c = some v := fun c v z n => by
    cases q : C c with
    | none => exact (cut_out q).trans z
    | some o =>
      rcases k c o q with y | y
      · rw [y] at z
        cases z
      · rw [y] at z
        cases z
        exact absurd rfl (n o)
  exact (ok b u e1).stay (fun _ _ _ z => z) (fun c z => stays c _ z fun o q => by cases q) fun c xs z => stays c _ z fun o q => by cases q
theorem hok_put (ok : HOk P w H h) (k : ∀ c o, C c = some o → H c = none ∧ h.get? c = some o) : HOk P w (put C H) h := fun b u e => by
  have stays : ∀ c v, H c = some v → put C H c = some v := fun c v z => by
    cases q : C c with
    | none => exact (put_out q).trans z
    | some o =>
      rw [(k c o q).1] at z
      cases z
  cases q : C b with
  | some o =>
    rw [put_at q] at e
    cases e
    exact ⟨(k b o q).2, o, (k b o q).2⟩
  | none =>
    rw [put_out q] at e
    exact (ok b u e).stay (fun _ _ _ z => z) (fun c z => stays c _ z) fun c xs z => stays c _ z
/-- what the running of a body leaves of the cells that were out of the picture -/
theorem un_put (un : Un fs ex (cut C H) H' h h') (k : ∀ c o, C c = some o → H c = some (.frz o (.own 0)) ∧ c ∉ fs ∧ c ∉ ex ∧ h.get? c = some o) : Un fs ex H (put C H') h h' ∧ ∀ c o, C c = some o → H' c = none ∧ h'.get? c = some o := by
  have out : ∀ c o, C c = some o → H' c = none ∧ h'.get? c = some o := fun c o e => by
    obtain ⟨_, k2, k3, k4⟩ := k c o e
    exact ⟨un.free c o k4 (cut_at e) k3, un.keep c o k4 (cut_at e) k2 k3⟩
  have no : ∀ {b}, H b = none → C b = none := fun {b} z => by
    cases q : C b with
    | none => rfl
    | some o =>
      rw [(k b o q).1] at z
      cases z
  have other : ∀ {b u}, H b = some u → (∀ o, u ≠ .frz o (.own 0)) → C b = none := fun {b u} z n => by
    cases q : C b with
    | none => rfl
    | some o =>
      rw [(k b o q).1] at z
      cases z
      exact absurd rfl (n o)
  refine ⟨⟨fun b o e n => un.keep b o e ((cut_out (no n)).trans n), fun b o e n => un.slot b o e ((cut_out (no n)).trans n), fun b o e n x => (put_out (no n)).trans (un.free b o e ((cut_out (no n)).trans n) x), un.there, fun b xs e => ?_, fun b o u e => ?_, fun b ps e => ?_⟩, out⟩
  · have q := other e fun o z => by cases z
    exact (put_out q).trans (un.tups b xs ((cut_out q).trans e))
  · cases q : C b with
    | none => exact (put_out q).trans (un.frzs b o u ((cut_out q).trans e))
    | some o2 =>
      rw [(k b o2 q).1] at e
      cases e
      exact put_at q
  · have q := other e fun o z => by cases z
    obtain ⟨more, z⟩ := un.tbls b ps ((cut_out q).trans e)
    exact ⟨more, (put_out q).trans z⟩
theorem ub_put (un : UB fs (cut C H) H' h B h') (k : ∀ c o, C c = some o → H c = some (.frz o (.own 0)) ∧ c ∉ fs ∧ h.get? c = some o) : UB fs H (put C H') h B h' ∧ ∀ c o, C c = some o → H' c = none ∧ B.get? c = some o := by
  have out : ∀ c o, C c = some o → H' c = none ∧ B.get? c = some o := fun c o e => by
    obtain ⟨_, k2, k4⟩ := k c o e
    exact ⟨un.free c o k4 (cut_at e), un.keep c o k4 (cut_at e) k2⟩
  have no : ∀ {b}, H b = none → C b = none := fun {b} z => by
    cases q : C b with
    | none => rfl
    | some o =>
      rw [(k b o q).1] at z
      cases z
  have other : ∀ {b u}, H b = some u → (∀ o, u ≠ .frz o (.own 0)) → C b = none := fun {b u} z n => by
    cases q : C b with
    | none => rfl
    | some o =>
      rw [(k b o q).1] at z
      cases z
      exact absurd rfl (n o)
  refine ⟨⟨fun b o e n => un.keep b o e ((cut_out (no n)).trans n), un.slot, fun b o e n => (put_out (no n)).trans (un.free b o e ((cut_out (no n)).trans n)), un.there, fun b xs e => ?_, fun b o u e => ?_, fun b ps e => ?_⟩, out⟩
  · have q := other e fun o z => by cases z
    exact (put_out q).trans (un.tups b xs ((cut_out q).trans e))
  · cases q : C b with
    | none => exact (put_out q).trans (un.frzs b o u ((cut_out q).trans e))
    | some o2 =>
      rw [(k b o2 q).1] at e
      cases e
      exact put_at q
  · have q := other e fun o z => by cases z
    obtain ⟨more, z⟩ := un.tbls b ps ((cut_out q).trans e)
    exact ⟨more, (put_out q).trans z⟩
/-- behind a call to which the cells were told -/
theorem un_cut (un : Un fs ex (put C H) H' h h') (ok : HOk P w H' h') (k : ∀ c o, C c = some o → H c = none ∧ h.get? c = some o) : Un fs ex H (cut C H') h h' ∧ ∀ c o, C c = some o → H' c = some (.frz o (.own 0)) ∧ h'.get? c = some o := by
  have out : ∀ c o, C c = some o → H' c = some (.frz o (.own 0)) ∧ h'.get? c = some o := fun c o e => by
    have z := un.frzs c o _ (put_at e)
    exact ⟨z, (ok c _ z).1⟩
  have no : ∀ {b u}, H b = some u → C b = none := fun {b u} z => by
    cases q : C b with
    | none => rfl
    | some o =>
      rw [(k b o q).1] at z
      cases z
  refine ⟨⟨fun b o e n hb hx => ?_, fun b o e n hb hx => ?_, fun b o e n hx => ?_, un.there, fun b xs e => ?_, fun b o u e => ?_, fun b ps e => ?_⟩, out⟩
  · cases q : C b with
    | none => exact un.keep b o e ((put_out q).trans n) hb hx
    | some o2 =>
      have z := (k b o2 q).2
      rw [e] at z
      cases z
      exact (out b o q).2
  · cases q : C b with
    | none => exact un.slot b o e ((put_out q).trans n) hb hx
    | some o2 =>
      have z := (k b o2 q).2
      rw [e] at z
      cases z
      exact ⟨o.slots, (out b o q).2⟩
  · cases q : C b with
    | none => exact (cut_out q).trans (un.free b o e ((put_out q).trans n) hx)
    | some o2 => exact cut_at q
  · exact (cut_out (no e)).trans (un.tups b xs ((put_out (no e)).trans e))
  · exact (cut_out (no e)).trans (un.frzs b o u ((put_out (no e)).trans e))
  · obtain ⟨more, z⟩ := un.tbls b ps ((put_out (no e)).trans e)
    exact ⟨more, (cut_out (no e)).trans z⟩
end
section
variable {P : Program} {w : World} {K : PySem.W.Frag} {mg : Str → Option Value} {base : Heap} {A : Around} {outer : List Env} {s : Shared} {H : Hp} {C : Cells}
theorem env0_cut (e : Env0 P w K mg base A outer s H) (k : ∀ c o, C c = some o → H c = none ∨ H c = some (.frz o (.own 0))) : Env0 P w K mg base A outer s (cut C H) := by
  have none_ : ∀ b, H b = none → cut C H b = none := fun b z => by
    cases q : C b with
    | none => exact (cut_out q).trans z
    | some o => exact cut_at q
  exact ⟨e.frames, e.mod, fun b o z => ⟨(e.bs b o z).1, none_ b (e.bs b o z).2⟩, e.bsz, e.funs, fun b z => none_ b (e.frf b z), hok_cut e.hok k, e.bare⟩
theorem env0_put (e : Env0 P w K mg base A outer s H) (k : ∀ c o, C c = some o → H c = none ∧ s.heap.get? c = some o ∧ base.get? c = none ∧ c ∉ frs outer) : Env0 P w K mg base A outer s (put C H) := by
  refine ⟨e.frames, e.mod, fun b o z => ⟨(e.bs b o z).1, ?_⟩, e.bsz, e.funs, fun b z => ?_, hok_put e.hok fun c o q => ⟨(k c o q).1, (k c o q).2.1⟩, e.bare⟩
  · refine (put_out ?_).trans (e.bs b o z).2
    cases q : C b with
    | none => rfl
    | some o2 =>
      have := (k b o2 q).2.2.1
      rw [z] at this
      cases this
  · refine (put_out ?_).trans (e.frf b z)
    cases q : C b with
    | none => rfl
    | some o2 => exact absurd z (k b o2 q).2.2.2
end
/-! ### lambdas -/
structure LF where
  qual : Str
  params : Arguments
  body : Expr
  scope : Scope
  cl : List (Str × Addr)
  c : Addr
  dV : Value
abbrev LF.fd (F : LF) (doc pm ctv : Value) : FuncData := PySem.W.kdv_fn "<lambda>" F.qual F.params (.expr F.body) F.scope F.cl F.dV doc pm (.ref F.c) ctv
abbrev LF.nf (F : LF) : NF := ⟨"<lambda>", F.qual, F.params, [], F.scope, F.cl, F.c⟩
def LmO (f : Addr) (F : LF) : HO := .ext fun h => ∃ (od : Option Addr) (sl : Array (Option Value)) (doc pm ctv : Value), h.get? f = some (⟨.type "function", od, .func (F.fd doc pm ctv), sl⟩ : Obj)
theorem lmO_ne {f : Addr} {F : LF} (ps : Array Value) : LmO f F ≠ .tbl ps := fun z => by
  unfold LmO at z
  cases z
theorem lmO_at {P : Program} {w : World} {H : Hp} {h : Heap} {f : Addr} {F : LF} (ok : HOk P w H h) (e : H f = some (LmO f F)) : ∃ (od : Option Addr) (sl : Array (Option Value)) (doc pm ctv : Value), h.get? f = some (⟨.type "function", od, .func (F.fd doc pm ctv), sl⟩ : Obj) := (ok f _ e).1
/-- a kept lambda: ws in its captured cells, vs its defaults -/
structure Thunk (H : Hp) (f : Addr) (F : LF) (C : Cells) (ps fr : List Str) (vs : List V) (ws : List (Option V)) : Prop where
  fo : H f = some (LmO f F)
  co : H F.c = some (CodeO F.c F.qual)
  inj : ∀ x y c, F.cl.lookup x = some c → F.cl.lookup y = some c → x = y
  cell : ∀ y c, F.cl.lookup y = some c → ∃ o v, C c = some o ∧ o.data = .cell v
  len : ws.length = fr.length
  has : ∀ (i : Nat) (y : Str), fr[i]? = some y → ∃ c o, F.cl.lookup y = some c ∧ C c = some o ∧ ∀ v, ws[i]? = some (some v) → ∃ u, RelV v u ∧ o.data = .cell (some u)
  at_ : ∀ c o, C c = some o → H c = some (.frz o (.own 0))
  nps : vs.length = ps.length
  bnd : ∃ (T : List (Addr × Obj)) (us : List Value), (∀ p ∈ T, H p.1 = some (.frz p.2 (.own 0))) ∧ Vals vs us ∧ ∀ (s : Shared) (doc pm ctv : Value), (∀ p ∈ T, s.heap.get? p.1 = some p.2) → BindsTo s (F.fd doc pm ctv) ⟨[], []⟩ (ps.zip us)
theorem Thunk.ext {H H' : Hp} {f : Addr} {F : LF} {C : Cells} {ps fr : List Str} {vs : List V} {ws : List (Option V)} (t : Thunk H f F C ps fr vs ws) (k : ∀ b o, H b = some o → H' b = some o) : Thunk H' f F C ps fr vs ws := by
  obtain ⟨T, us, a, b, c⟩ := t.bnd
  exact ⟨k _ _ t.fo, k _ _ t.co, t.inj, t.cell, t.len, t.has, fun c o e => k _ _ (t.at_ c o e), t.nps, T, us, fun p hp => k _ _ (a p hp), b, c⟩
theorem Thunk.extN {H H' : Hp} {f : Addr} {F : LF} {C : Cells} {ps fr : List Str} {vs : List V} {ws : List (Option V)} (t : Thunk H f F C ps fr vs ws) (k : ExtN H H') : Thunk H' f F C ps fr vs ws := by
  obtain ⟨T, us, a, b, c⟩ := t.bnd
  exact ⟨k _ _ t.fo lmO_ne, k _ _ t.co codeO_ne, t.inj, t.cell, t.len, t.has, fun c o e => k _ _ (t.at_ c o e) (fun ps z => by cases z), t.nps, T, us, fun p hp => k _ _ (a p hp) (fun ps z => by cases z), b, c⟩
/-- the def at f, called without arguments, raises -/
def Runs (P : Program) (w : World) (K : PySem.W.Frag) (mg : Str → Option Value) (base : Heap) (k : Nat) (f : Addr) (H : Hp) (E : XK) : Prop :=
  ∀ (A : Around) (outer : List Env) (s : Shared) (Q : VK), Room k A → Env0 P w K mg base A outer s H → codeAny (model P w) A (.call (.ref f) ⟨[], []⟩) (CR (L2N.CX P w) outer P w H s Q E) s
theorem Runs.imp {P : Program} {w : World} {K : PySem.W.Frag} {mg : Str → Option Value} {base : Heap} {k : Nat} {f : Addr} {H : Hp} {E E' : XK} (r : Runs P w K mg base k f H E) (h : ∀ cls d H', E cls d H' → E' cls d H') : Runs P w K mg base k f H E' := fun A outer s Q room e0 =>
  codeAny_mono (r A outer s Q room e0) fun r s' q => by
    cases r with
    | ok fl => cases fl <;> exact q
    | error e =>
      obtain ⟨a, B, H', cls, d, e, fl, ok, ub, na, os, ag, x⟩ := q
      exact ⟨a, B, H', cls, d, e, fl, ok, ub, na, os, ag, h _ _ _ x⟩
section
variable {P : Program} {w : World} {K : PySem.W.Frag} {mg : Str → Option Value} {base : Heap} {k : Nat} {f : Addr} {H : Hp} {F : LF} {C : Cells} {N ps fr : List Str} {vs : List V} {ws : List (Option V)} {E : XK}
/-- THE RULE: a kept lambda by its body -/
theorem runs_of (t : Thunk H f F C ps fr vs ws) (S : NScope N ps fr F.scope)
    (body : ∀ (A : Around) (outer : List Env) (s : Shared), Room k (A.deeper (envF F.nf f s.heap.objs.size)) →
      ∃ tb, PE (ncx (L2N.CX P w) P w K mg base N F.nf f A outer s (cut C H) fun cls d H' => (∀ c o, C c = some o → H' c = none) → E cls d (put C H')) F.body tb ∧ tb (startF N vs ws) (cut C H) fun _ _ => False) : Runs P w K mg base (k + 1) f H E := by
  intro A outer s Q room e0
  have lim : s.heap.NoLimit := e0.mod.nolimit.keeps fun b o e => (e0.bs b o e).1
  have cells : ∀ c o, C c = some o → H c = some (.frz o (.own 0)) ∧ c ∉ frs outer ∧ s.heap.get? c = some o := fun c o e => by
    have z := t.at_ c o e
    refine ⟨z, fun m => ?_, (e0.hok c _ z).1⟩
    rw [e0.frf c m] at z
    cases z
  have e1 : Env0 P w K mg base A outer s (cut C H) := env0_cut e0 fun c o e => .inr (cells c o e).1
  obtain ⟨od, sl, doc, pm, ctv, ho⟩ := lmO_at e0.hok t.fo
  obtain ⟨T, us, tat, rv, bt⟩ := t.bnd
  refine PySem.W.kla_callFunE room.depth ho rfl S.co S.gen rfl (codeO_at e0.hok t.co) (bt s doc pm ctv (fun p hp => (e0.hok _ _ (tat p hp)).1) _ _ _ _ ?_)
  refine wpAny_newFunctionEnv S.nocell (fun ⟨n, _⟩ hy => S.par n (List.of_mem_zip hy).1) (fun h₁ ns sb => ⟨lim.fresh _ sb, ?_⟩) S.kind
  show codeAny _ _ (.expr F.body (envF F.nf f s.heap.objs.size)) _ _
  have up : ∀ b o, s.heap.get? b = some o → h₁.get? b = some o := fun b o e => sb.extBut b o (Nat.ne_of_lt (Heap.lt_size e)) (Heap.get?_push_of_some _ e)
  have cat : CellsAt F.cl fr ws s.heap (cut C H) := by
    refine ⟨t.len, fun y c e => ?_, t.inj, fun i y e => ?_⟩
    · obtain ⟨o, v, e2, e3⟩ := t.cell y c e
      exact ⟨cut_at e2, v, o, (cells c o e2).2.2, e3⟩
    · obtain ⟨c, o, e2, e3, e4⟩ := t.has i y e
      refine ⟨c, e2, fun v ev => ?_⟩
      obtain ⟨u, ru, du⟩ := e4 v ev
      exact ⟨u, ru, o, (cells c o e3).2.2, du⟩
  obtain ⟨tb, der, red⟩ := body A outer s (room.deeper _)
  have I := inv_startN (CX := L2N.CX P w) (E := fun cls d H' => (∀ c o, C c = some o → H' c = none) → E cls d (put C H')) (F := F.nf) (f := f) (h₁ := h₁) (tk := s.toks + (ps.zip us).length) S room.hd e1 t.nps rv cat ns up
  refine PySem.W.kla_codeExpr (wpAny_mono (der.run [] _ _ (cut C H) _ I red) (fun v s' hq => ?_) fun e s' hq => wpAny_mono hq (fun _ s2 hx => ?_) fun e2 s2 hx => ?_)
  · obtain ⟨_, _, _, _, z⟩ := hq
    exact z.elim
  all_goals
    obtain ⟨a, B, H', cls, d, e3, fl, ok, ub, na, os, ag, x⟩ := hx
    obtain ⟨ub2, out⟩ := ub_put ub cells
    refine ⟨a, B, put C H', cls, d, e3, fl, hok_put ok out, ub2, ?_, os, ag, x fun c o e => (out c o e).1⟩
    refine (put_out ?_).trans na
    cases q : C a with
    | none => rfl
    | some o =>
      have z := (out a o q).2
      rw [fl.2.1] at z
      cases z
end
end SX

set_option Elab.async false
set_option linter.all false
set_option maxRecDepth 100000
set_option maxHeartbeats 4000000
/-! The making of a kept lambda; what a def hands back whose lambdas captured its cells; a call to which one's own cells are told. -/
namespace SX
open PySem PySem.Spec PyProof.Rows L2 LamX NdefX
section
variable {X : Cx} {pins : List (Addr × Obj)} {σ : L2.St} {H : Hp} {s : Shared} {T : List (Addr × Str)} {c Pt : Addr} {params : Arguments} {body : Expr} {scope : Scope} {pos : Pos}
theorem inv_lam {F : LF} {o : Obj} {t' : Nat} {doc pm ctv : Value} (I : Inv X pins σ H s) (ho : o = { cls := .type "function", data := .func (F.fd doc pm ctv) }) :
    Inv X pins σ (upd H s.heap.objs.size (LmO s.heap.objs.size F)) { s with heap := s.heap.push o, toks := t' } := by
  have e : (s.heap.push o).get? s.heap.objs.size = some ({ cls := .type "function", data := .func (F.fd doc pm ctv) } : Obj) := by
    rw [← ho]
    exact Heap.get?_push_size _ (by rw [ho] <;> rfl)
  exact I.laid (a := s.heap.objs.size) (fun b u e => Heap.get?_push_of_some _ e) (Nat.le_refl _) ⟨⟨none, _, doc, pm, ctv, e⟩, ⟨_, e⟩, fun _ _ ⟨od, sl, d, p, t, z⟩ st => ⟨od, sl, d, p, t, st _ z⟩⟩
theorem tab_more {H1 : Hp} {ps : Array Value} {q : Str} {c' : Addr} (hP : H Pt = some (.tbl ps)) (ht : TriplesOk ps.toList) (ha : ∀ (pos : Pos) (cv : Value), codeAmong pos ps.toList = some cv → ∃ c, cv = .ref c ∧ H c = some (CodeO c q)) (ex : ExtN H H1)
    (hP1 : H1 Pt = some (.tbl (ps ++ #[rawInt pos.line, rawInt pos.col, .ref c']))) (hc1 : H1 c' = some (CodeO c' q)) : TabS H1 Pt q := by
  have eL : (ps ++ #[rawInt pos.line, rawInt pos.col, .ref c']).toList = ps.toList ++ [rawInt pos.line, rawInt pos.col, .ref c'] := by simp
  refine ⟨_, hP1, by rw [eL]; exact PySem.TriplesOk_snoc _ _ _ _ ht, fun p' cv e => ?_⟩
  rw [eL] at e
  rcases among_app _ ht e with z | z
  · obtain ⟨c0, e1, e2⟩ := ha p' cv z
    exact ⟨c0, e1, ex _ _ e2 codeO_ne⟩
  · exact ⟨c', z, hc1⟩
theorem lam_mk {dV : Value} {E : Value → Shared → Prop} {Q : Value → Shared → Prop} (I : Inv X pins σ H s) (TB : TabB X.base X.mg c Pt) (code : X.env.code = .ref c) (mem : (Pt, X.env.qual ++ "<lambda>") ∈ T)
    (uniq : ∀ p ∈ T, p.1 = Pt → p.2 = X.env.qual ++ "<lambda>") (tabs : Tabs T H) (free : ∀ y ∈ scope.names, y.2 = .free → ∃ c, X.env.cells.lookup y.1 = some c)
    (q : ∀ (f c' : Addr) (H1 : Hp) (s' : Shared), Inv X pins σ H1 s' → ExtN H H1 → (∀ b, H1 b = none → H b = none) → Tabs T H1 → H f = none → H1 f = some (LmO f ⟨X.env.qual ++ "<lambda>", params, body, scope, cloFrom X.env.cells scope.names [], c', dV⟩) → H1 c' = some (CodeO c' (X.env.qual ++ "<lambda>")) → Q (.ref f) s') :
    wpAny (model X.prog X.w) X.A (makeTail "<lambda>" (X.env.qual ++ "<lambda>") params (.expr body) scope X.env dV .none none pos pos.line) Q E s := by
  obtain ⟨ps, hP, ht, ha⟩ := tabs _ mem
  have bP : s.heap.BuiltinsAt X.mg Pt := TB.bm.keeps I.bk
  have hP' : s.heap.get? Pt = some { cls := .none, data := .fields ps } := I.hok Pt _ hP
  -- the function object, laid over what is tracked already
  have fin : ∀ {H1 : Hp} {s1 : Shared} {c' : Addr} {doc ctv : Value} {tk : Nat}, Inv X pins σ H1 s1 → ExtN H H1 → (∀ b, H1 b = none → H b = none) → Tabs T H1 → s.heap.objs.size ≤ s1.heap.objs.size → H1 c' = some (CodeO c' (X.env.qual ++ "<lambda>")) →
      Q (.ref s1.heap.objs.size) { s1 with heap := s1.heap.push (PySem.W.kdv_obj "<lambda>" (X.env.qual ++ "<lambda>") params (.expr body) scope (cloFrom X.env.cells scope.names []) dV doc ((X.mg "__name__").getD .none) c' ctv), toks := tk } := fun {H1 s1 c' doc ctv tk} I1 ex nn tb sz co => by
    have nF : H1 s1.heap.objs.size = none := I1.hok.fresh (Nat.le_refl _)
    have I2 := inv_lam (F := ⟨X.env.qual ++ "<lambda>", params, body, scope, cloFrom X.env.cells scope.names [], c', dV⟩) (t' := tk) (doc := doc) (pm := (X.mg "__name__").getD .none) (ctv := ctv) I1 rfl
    have up : ∀ b o, H1 b = some o → upd H1 s1.heap.objs.size (LmO s1.heap.objs.size ⟨X.env.qual ++ "<lambda>", params, body, scope, cloFrom X.env.cells scope.names [], c', dV⟩) b = some o := fun b o e => (upd_ne (ne_of_none e nF)).trans e
    exact q _ c' _ _ I2 (fun b o e n => up _ _ (ex b o e n)) (fun b e => nn b (upd_none e)) (tb.ext up) (I.hok.fresh sz) upd_same (up _ _ co)
  cases hc : codeAmong pos ps.toList with
  | none =>
    refine PySem.W.kdv_makeTail (mg := X.mg) (c := c) (P := Pt) (ps := ps) (closure_ok free) I.ok.glob (I.mod.glob.keeps I.bk) code (TB.code.keeps I.bk) hP' ht hc TB.gP bP fun c' ctv doc h' tk hx ge lt rc tb => ?_
    obtain ⟨c2, oc, vs, t, e2, hoc, hd, hv⟩ := rc
    cases e2
    have nC : H c' = none := I.hok.fresh ge
    have nPc : Pt ≠ c' := ne_of_none hP nC
    have I1 := inv_table (t' := s.toks) (more := #[rawInt pos.line, rawInt pos.col, .ref c']) (h' := h') I hP (fun b o hb e => hx b o hb e) tb ge ⟨oc, vs, t, hoc, hd, hv⟩
    have ex : ExtN H (upd (upd H Pt (.tbl (ps ++ #[rawInt pos.line, rawInt pos.col, .ref c']))) c' (CodeO c' (X.env.qual ++ "<lambda>"))) := fun b o e n => by
      rw [upd_ne (ne_of_none e nC), upd_ne (fun z => n ps (Option.some.inj (e.symm.trans (by rw [z]; exact hP))))]
      exact e
    refine fin (s1 := { s with heap := h', toks := s.toks }) I1 ex (fun b e => upd_none (upd_none e)) (fun p hp => ?_) (Nat.le_trans ge (Nat.le_of_lt lt)) upd_same
    by_cases hb : p.1 = Pt
    · rw [uniq p hp hb, hb]
      exact tab_more hP ht ha ex (by rw [upd_ne nPc, upd_same]) upd_same
    · obtain ⟨ps', a1, a2, a3⟩ := tabs p hp
      refine ⟨ps', by rw [upd_ne (ne_of_none a1 nC), upd_ne hb]; exact a1, a2, fun p' cv hcv => ?_⟩
      obtain ⟨c0, e1, e2⟩ := a3 p' cv hcv
      exact ⟨c0, e1, ex _ _ e2 codeO_ne⟩
  | some cv =>
    obtain ⟨c', e, hco⟩ := ha pos cv hc
    subst e
    refine PySem.W.kdv_makeTailHit (mg := X.mg) (c := c) (P := Pt) (ps := ps) (closure_ok free) I.ok.glob (I.mod.glob.keeps I.bk) code (TB.code.keeps I.bk) hP' ht hc bP fun ctv doc h' tk hx sz => ?_
    have I1 : Inv X pins σ H { s with heap := h', toks := s.toks } := I.kept hx
    exact fin (s1 := { s with heap := h', toks := s.toks }) I1 (ExtN.refl H) (fun b e => e) tabs sz hco
/-- lambda: body -/
def tLam0 (T : List (Addr × Str)) (mk : Addr → LF) : TE := fun _ H Q => Tabs T H ∧ ∀ (f c' : Addr) (H1 : Hp), ExtN H H1 → (∀ b, H1 b = none → H b = none) → Tabs T H1 → H f = none → H1 f = some (LmO f (mk c')) → H1 c' = some (CodeO c' (mk c').qual) → Q (.ref f) H1
theorem pe_lam0 (TB : TabB X.base X.mg c Pt) (code : X.env.code = .ref c) (mem : (Pt, X.env.qual ++ "<lambda>") ∈ T) (uniq : ∀ p ∈ T, p.1 = Pt → p.2 = X.env.qual ++ "<lambda>") (hdef : defaultsOf params X.env = ([], []))
    (free : ∀ y ∈ scope.names, y.2 = .free → X.env.scope.names.lookup y.1 = some .cell ∨ X.env.scope.names.lookup y.1 = some .free) :
    PE X (.Lambda params body scope pos) (tLam0 T fun c' => ⟨X.env.qual ++ "<lambda>", params, body, scope, cloFrom X.env.cells scope.names [], c', .none⟩) := by
  refine ⟨fun pins s σ H Q I h => PySem.W.kla_eval hdef ?_⟩
  rw [makeFunction_eq]
  simp only [List.zip_nil_right, List.filterMap_nil, List.isEmpty_nil, if_true, pure_bind]
  exact lam_mk I TB code mem uniq h.1 (fun y hy e => (free y hy e).elim (fun z => I.ok.has _ (.inl z)) fun z => I.ok.has _ (.inr z)) fun f c' H1 s' I1 ex nn tb n a b => ⟨.ref f, H1, I1, rfl, h.2 f c' H1 ex nn tb n a b⟩
/-- lambda x=i: body -/
def tLam1 (T : List (Addr × Str)) (i : Int) (mk : Addr → Addr → LF) : TE := fun _ H Q => Tabs T H ∧ ∀ (f c' t : Addr) (tk : Tok) (H1 : Hp), ExtN H H1 → (∀ b, H1 b = none → H b = none) → Tabs T H1 → H1 f = some (LmO f (mk c' t)) → H1 c' = some (CodeO c' (mk c' t).qual) →
  H1 t = some (.frz (PySem.W.kdv_tup [.int i tk]) (.own 0)) → Q (.ref f) H1
theorem pe_lam1 {i : Int} {j : Nat} {cpos : Pos} (TB : TabB X.base X.mg c Pt) (code : X.env.code = .ref c) (mem : (Pt, X.env.qual ++ "<lambda>") ∈ T) (uniq : ∀ p ∈ T, p.1 = Pt → p.2 = X.env.qual ++ "<lambda>") (hdef : params.defaults = [.Constant (.int i) j cpos]) (hkw : params.kw_defaults = [])
    (free : ∀ y ∈ scope.names, y.2 = .free → X.env.scope.names.lookup y.1 = some .cell ∨ X.env.scope.names.lookup y.1 = some .free) :
    PE X (.Lambda params body scope pos) (tLam1 T i fun c' t => ⟨X.env.qual ++ "<lambda>", params, body, scope, cloFrom X.env.cells scope.names [], c', .ref t⟩) := by
  refine ⟨fun pins s σ H Q I h => PySem.W.kdv_lam (by rw [hdef]; rfl) hkw ?_⟩
  rw [hdef]
  refine PySem.W.kdv_all1 (wpAny_Constant_int (PySem.W.kdv_all0 ?_))
  rw [makeFunction_eq]
  simp only [List.zip_nil_right, List.filterMap_nil, List.isEmpty_nil, if_true, pure_bind, List.isEmpty_cons, Bool.false_eq_true, if_false]
  refine wpAny_bind (wpAny_newTextTuple ?_)
  generalize hz : s.heap.objs.size = t
  have nT : H t = none := I.hok.fresh (Nat.le_of_eq hz)
  have at_ : (s.heap.push (PySem.W.kdv_tup [.int i s.toks])).get? t = some (PySem.W.kdv_tup [.int i s.toks]) := by
    rw [← hz]
    exact Heap.get?_push_size _ rfl
  have I1 : Inv X pins σ (upd H t (.frz (PySem.W.kdv_tup [.int i s.toks]) (.own 0))) { s with heap := s.heap.push (PySem.W.kdv_tup [.int i s.toks]), toks := s.toks + 1 } :=
    I.laid (fun b u e => Heap.get?_push_of_some _ e) (Nat.le_of_eq hz) ⟨at_, _, at_⟩
  have up : ∀ b o, H b = some o → upd H t (.frz (PySem.W.kdv_tup [.int i s.toks]) (.own 0)) b = some o := fun b o e => (upd_ne (ne_of_none e nT)).trans e
  exact lam_mk I1 TB code mem uniq (h.1.ext up) (fun y hy e => (free y hy e).elim (fun z => I.ok.has _ (.inl z)) fun z => I.ok.has _ (.inr z)) fun f c' H1 s' I2 ex nn tb n a b =>
    ⟨.ref f, H1, I2, rfl, h.2 f c' t s.toks H1 (fun b o e n => ex b o (up b o e) n) (fun b e => upd_none (nn b e)) tb a b (ex _ _ upd_same fun ps z => by cases z)⟩
end
/-! ### one's own cells -/
/-- what the cells of a frame hold, as objects -/
structure CellsZ (cells : List (Str × Addr)) (sc : Scope) (N : List Str) (σ : L2.St) (H : Hp) (C : Cells) : Prop where
  all : ∀ y c, cells.lookup y = some c → ∃ o v, C c = some o ∧ o.data = .cell v
  val : ∀ (i : Nat) (y : Str) (v : V), N[i]? = some y → σ[i]? = some (some v) → sc.names.lookup y = some .cell → ∃ c o u, cells.lookup y = some c ∧ C c = some o ∧ o.data = .cell (some u) ∧ RelV v u
  new : ∀ c o, C c = some o → H c = none
  inj : ∀ x y c, cells.lookup x = some c → cells.lookup y = some c → x = y
  only : ∀ c o, C c = some o → ∃ y, cells.lookup y = some c
  has : ∀ y, sc.names.lookup y = some .cell → ∃ c, cells.lookup y = some c
theorem cells_here {X : Cx} {pins : List (Addr × Obj)} {σ : L2.St} {H : Hp} {s : Shared} (I : Inv X pins σ H s) (fn : ∀ x, X.fn x = true) : ∃ C : Cells, CellsZ X.env.cells X.env.scope X.N σ H C ∧ ∀ c o, C c = some o → s.heap.get? c = some o ∧ X.s_0.heap.objs.size ≤ c := by
  classical
  refine ⟨fun c => if ∃ y, X.env.cells.lookup y = some c then s.heap.get? c else none, ⟨fun y c e => ?_, fun i y v e1 e2 k => ?_, fun c o e => ?_, I.ok.inj, fun c o e => ?_, fun y k => I.ok.has y (.inl k)⟩, fun c o e => ?_⟩
  · obtain ⟨v, o, e1, e2⟩ := I.cell y c e
    exact ⟨o, v, (if_pos ⟨y, e⟩).trans e1, e2⟩
  · obtain ⟨m, ns, hl⟩ := I.loc
    obtain ⟨u, r, l⟩ := hl i y v e1 e2 (.inr (.inl k))
    have k : X.env.kindOf y = some .cell := k
    rcases l with ⟨z, _⟩ | ⟨_, c, e, o, z1, z2⟩
    · rw [k] at z
      cases z
    · exact ⟨c, o, u, e, (if_pos ⟨y, e⟩).trans z1, z2, r⟩
  · by_cases q : ∃ y, X.env.cells.lookup y = some c
    · obtain ⟨y, q⟩ := q
      exact I.freeC y c q
    · have e : (if ∃ y, X.env.cells.lookup y = some c then s.heap.get? c else none) = some o := e
      rw [if_neg q] at e
      cases e
  · by_cases q : ∃ y, X.env.cells.lookup y = some c
    · exact q
    · have e : (if ∃ y, X.env.cells.lookup y = some c then s.heap.get? c else none) = some o := e
      rw [if_neg q] at e
      cases e
  · have e : (if ∃ y, X.env.cells.lookup y = some c then s.heap.get? c else none) = some o := e
    by_cases q : ∃ y, X.env.cells.lookup y = some c
    · rw [if_pos q] at e
      obtain ⟨y, q⟩ := q
      exact ⟨e, I.ok.cab y c (fn y) q⟩
    · rw [if_neg q] at e
      cases e
/-! ### a body that ends by handing back -/
abbrev TR := L2.St → Hp → (L2.St → VK) → Prop
/-- st .., return e -/
structure PR (X : Cx) (body : List Stmt) (t : TR) : Prop where
  run : ∀ (pins : List (Addr × Obj)) (s : Shared) (σ : L2.St) (H : Hp) (Q : L2.St → VK), Inv X pins σ H s → t σ H Q → wpAny (model X.prog X.w) X.A (execs body X.env) (fun fl s' => ∃ (u : Value) (v : V) (σ' : L2.St) (H' : Hp), fl = .ret u ∧ Inv X pins σ' H' s' ∧ RelV v u ∧ Q σ' v H') X.xe s
def trR (te : TE) : TR := fun σ H Q => te σ H (Q σ)
def trC (t : TS) (u : TR) : TR := fun σ H Q => t { nx := fun σ1 H1 => u σ1 H1 Q, rt := fun _ _ => False } σ H
theorem pr_ret {X : Cx} {e : Expr} {te : TE} {pos : Pos} (he : PE X e te) : PR X [.Return (some e) pos] (trR te) :=
  ⟨fun pins s σ H Q I h => wpAny_execs_cons (wpAny_Return_some (thn (he.run pins s σ H _ I h) fun u s1 ⟨v, H1, I1, r1, q1⟩ => ⟨u, v, σ, H1, rfl, I1, r1, q1⟩))⟩
theorem pr_cons {X : Cx} {st : Stmt} {rest : List Stmt} {t : TS} {u : TR} (h1 : PS X st t) (h2 : PR X rest u) : PR X (st :: rest) (trC t u) := by
  refine ⟨fun pins s σ H Q I h => wpAny_execs_cons (thn (h1.run pins s σ H _ I h) fun fl s1 q => ?_)⟩
  cases fl with
  | next =>
    obtain ⟨σ1, H1, I1, q1⟩ := q
    exact h2.run pins s1 σ1 H1 Q I1 q1
  | brk => exact q.choose_spec.choose_spec.2.elim
  | cont => exact q.choose_spec.choose_spec.2.elim
  | ret u =>
    obtain ⟨_, _, _, _, _, z⟩ := q
    exact z.elim
section
variable {P : Program} {w : World} {K : PySem.W.Frag} {mg : Str → Option Value} {base : Heap} {x qual : Str} {params : Arguments} {body : List Stmt} {scope : Scope} {dvs : List V} {kws : List (Str × V)} {f : Addr} {fd : FuncData}
/-- a def that hands back what holds its cells: they are known objects from then on -/
theorem fnC_ok {CX : CXT} {N ps : List Str} {k : Nat} {sp : Sp} {ccd : Value} (F : FunD K x qual params body scope dvs kws f fd) (S : FnScope N ps scope) (ln : ∀ vs H Q E, sp vs H Q E → vs.length = ps.length)
    (code : ∀ oc od osl (g : FuncData), K.lookup f = some ⟨oc, od, .func g, osl⟩ → g.code = ccd)
    (bd : ∀ (A : Around) (outer : List Env) (s : Shared) (H : Hp) (vs : List V) (Q : VK) (E : XK), Room k (A.deeper (envOfC qual scope s.heap.objs.size f ccd)) → sp vs H Q E →
      ∃ t, PR (cxOf CX P w K mg base N qual scope f ccd A outer s H E) body t ∧ t (L2.start N vs) H fun σ1 v H1 => ∀ C : Cells, CellsZ (cellsFrom (s.heap.objs.size + 1) scope.names []) scope N σ1 H1 C → (∀ c o, C c = some o → H c = none) → Q v (put C H1)) :
    FnOk P w K mg base CX (k + 1) f fd ps sp := by
  obtain ⟨oc, od, dV, kV, doc, pm, an, cdv, ct, osl, rfl, lk, hcd, _, _⟩ := F.ex
  have ec : cdv = ccd := code _ _ _ _ lk
  subst ec
  refine ⟨ln, fun A outer s H args us vs Q E hr e0 hb r hsp => ?_⟩
  have hl := ln _ _ _ _ hsp
  have KX : K.In s.heap := e0.mod.kin.keeps fun b o e => (e0.bs b o e).1
  have lim : s.heap.NoLimit := e0.mod.nolimit.keeps fun b o e => (e0.bs b o e).1
  refine codeAny_call_function hr.depth (KX _ _ lk) rfl S.co S.gen rfl (PySem.W.codeRec_of KX hcd) (hb _ _ _ _ ?_)
  refine wpAny_newFunctionEnv_cells S.kind (fun y hy => ?_) fun env he s1 ic => ?_
  · rcases S.par y.1 (List.of_mem_zip (show (y.1, y.2) ∈ ps.zip us from hy)).1 with loc | cel
    · exact .inl loc
    · exact .inr ⟨cel, PySem.W.cellsFrom_some _ _ _ (.inl cel)⟩
  subst he
  refine ⟨lim.keeps ic.toInCall.keep, codeAny_func ?_⟩
  obtain ⟨t, der, red⟩ := bd A outer s H vs Q E (hr.deeper _) hsp
  refine wpAny_mono (der.run [] s1 (L2.start N vs) H _ (inv_start S hr.hd e0 hl r ic) red) (fun fl s' hs => ?_) fun e s' hs => hs
  obtain ⟨u, v, σ', H', rfl, J, rv, q⟩ := hs
  obtain ⟨C, CZ, here⟩ := cells_here J fun _ => rfl
  have fresh : ∀ c o, C c = some o → s.heap.get? c = none ∧ H c = none := fun c o e => ⟨Heap.get?_none_of_le (here c o e).2, e0.hok.fresh (here c o e).2⟩
  have out : ∀ {b o}, s.heap.get? b = some o → C b = none := fun {b o} e => by
    cases q : C b with
    | none => rfl
    | some o2 =>
      rw [(fresh b o2 q).1] at e
      cases e
  have out2 : ∀ {b u}, H b = some u → C b = none := fun {b u} e => by
    cases q : C b with
    | none => rfl
    | some o2 =>
      rw [(fresh b o2 q).2] at e
      cases e
  have un := J.base
  refine ⟨v, put C H', J.os, J.bare, ⟨un.keep, un.slot, fun b o e n hx => (put_out (out e)).trans (un.free b o e n hx), un.there, fun b xs e => (put_out (out2 e)).trans (un.tups b xs e), fun b o u e => (put_out (out2 e)).trans (un.frzs b o u e), fun b ps e => ?_⟩,
    hok_put J.hok fun c o e => ⟨CZ.new c o e, (here c o e).1⟩, rv, q C CZ fun c o e => (fresh c o e).2⟩
  obtain ⟨more, z⟩ := un.tbls b ps e
  exact ⟨more, (put_out (out2 e)).trans z⟩
end
/-! ### calls -/
theorem FnOk.lift0 {P : Program} {w : World} {K : PySem.W.Frag} {mg : Str → Option Value} {base : Heap} {CX : CXT} {k : Nat} {f : Addr} {fd : FuncData} {ps : List Str} {sp : Sp} (F : FnOk P w K mg base (fun _ _ _ _ _ _ => False) k f fd ps sp) : FnOk P w K mg base CX k f fd ps sp :=
  ⟨F.len, fun A outer s H args us vs Q E hr e0 hb r h => codeAny_mono (F.run A outer s H args us vs Q E hr e0 hb r h) fun r s' q => by
    cases r with
    | ok fl => cases fl <;> exact q
    | error e => exact False.elim q⟩
theorem FnOk.both {P : Program} {w : World} {K : PySem.W.Frag} {mg : Str → Option Value} {base : Heap} {CX : CXT} {k : Nat} {f : Addr} {fd : FuncData} {ps : List Str} {sp sp' : Sp} (F : FnOk P w K mg base CX k f fd ps sp) (G : FnOk P w K mg base CX k f fd ps sp') :
    FnOk P w K mg base CX k f fd ps (fun vs H Q E => sp vs H Q E ∨ sp' vs H Q E) :=
  ⟨fun vs H Q E h => h.elim (F.len _ _ _ _) (G.len _ _ _ _), fun A outer s H args us vs Q E hr e0 hb r h => h.elim (F.run A outer s H args us vs Q E hr e0 hb r) (G.run A outer s H args us vs Q E hr e0 hb r)⟩
section
variable {X : Cx} {CX : CXT} {k : Nat} {f : Addr} {fd : FuncData} {ps : List Str} {sp : Sp} {E : XK} {x : Str} {p pos : Pos} {e : Expr} {es : List Expr} {t : TA}
/-- a call to which the running frame's cells are told -/
def tCallF (cells : List (Str × Addr)) (sc : Scope) (N : List Str) (sp : Sp) (E : XK) (t : TA) : TE := fun σ H Q => t σ H fun vs H1 => ∀ C : Cells, CellsZ cells sc N σ H1 C → sp vs (put C H1) (fun v H2 => Q v (cut C H2)) E
theorem pe_callF (F : FnOk X.prog X.w X.K X.mg X.base CX k f fd ps sp) (room : Room k X.A) (fn : ∀ x, X.fn x = true) (hg : Gl X x) (hm : X.mg x = some (.ref f)) (hk : PySem.W.keepIn X.K (.ref f) = true) (hb : Binds X.K fd ps []) (hx : ∀ H s e s', ¬ CX X.stack H s E e s')
    (ha : PA X (e :: es) t) (hdb : (x == ("__debug__" : Str)) = false := by decide) (he : starEach (e :: es) X.env = (false, eval e X.env) :: starEach es X.env := by rfl) (hpl : (backTo pos (starEach es X.env)).any (·.1) = false := by rfl) :
    PE X (.Call (.Name x p) (e :: es) [] pos) (tCallF X.env.cells X.env.scope X.N sp E t) := by
  refine ⟨fun pins s σ H Q I h => ?_⟩
  refine wpAny_Call_Name_kw (ld_glob I hg hm ?_ hdb)
  refine PySem.W.callWith_K (h₀ := X.base) I.ok.mod.kin hk (thn (ha.run pos pins s σ H _ I h) fun us s1 ⟨vs, H1, I1, r, q⟩ => ⟨I1.kIn, ?_⟩) he hpl
  obtain ⟨C, CZ, here⟩ := cells_here I1 fn
  have ins : ∀ c o, C c = some o → H1 c = none ∧ s1.heap.get? c = some o ∧ X.base.get? c = none ∧ c ∉ frs X.stack := fun c o e => by
    obtain ⟨h1, h2⟩ := here c o e
    refine ⟨CZ.new c o e, h1, Heap.get?_none_of_le (Nat.le_trans I1.ok.bsz h2), fun m => ?_⟩
    rcases List.mem_cons.mp (I1.stkSub c m) with z | z
    · obtain ⟨mL, ⟨oL, _, _, e1, e2, _⟩, _⟩ := I1.loc
      have e1 : s1.heap.get? X.env.locals = some oL := e1
      rw [← z, h1] at e1
      cases e1
      have cell : ∃ v, o.data = .cell v := by
        obtain ⟨y, q⟩ := CZ.only c o e
        obtain ⟨o2, v, a, b⟩ := CZ.all y c q
        rw [a] at e
        cases e
        exact ⟨v, b⟩
      obtain ⟨v, cell⟩ := cell
      rw [cell] at e2
      cases e2
    · obtain ⟨_, o2, e2, _⟩ := I1.ok.funs.mem z
      exact absurd (Nat.lt_of_lt_of_le (Heap.lt_size e2) h2) (Nat.lt_irrefl _)
  have hsp := q C CZ
  have lus : us.length = ps.length := r.length.symm.trans (F.len _ _ _ _ hsp)
  have bb := hb s1 us I1.kIn (by rw [List.append_nil]; exact lus)
  rw [List.append_nil] at bb
  refine wpAny_call (codeAny_mono (F.run X.A X.stack s1 (put C H1) ⟨us, []⟩ us vs _ E room (env0_put I1.env0 ins) bb r hsp) fun r s' hq => ?_)
  cases r with
  | error e => exact absurd hq (hx _ _ e s')
  | ok fl =>
    cases fl with
    | ret u =>
      obtain ⟨v, H2, os, bare, un, ok, rv, q2⟩ := hq
      obtain ⟨un2, o2⟩ := un_cut un ok fun c o e => ⟨(ins c o e).1, (ins c o e).2.1⟩
      exact ⟨v, cut C H2, I1.call' (ch := []) os un2 (hok_cut ok fun c o e => .inr (o2 c o e).1) bare (fun b z => nomatch z), rv, q2⟩
    | next => exact hq.elim
    | brk => exact hq.elim
    | cont => exact hq.elim
/-- x(), x a name that holds a kept lambda that raises -/
def tCallZ (P : Program) (w : World) (K : PySem.W.Frag) (mg : Str → Option Value) (base : Heap) (k i : Nat) (E : L2.St → XK) : TE := fun σ H _ => ∃ f F, σ[i]? = some (some (.ref f)) ∧ H f = some (LmO f F) ∧ Runs P w K mg base k f H (E σ)
theorem pe_callZ {i : Nat} {E : L2.St → XK} (room : Room k X.A) (hN : X.N[i]? = some x) (hv : Vis X.env.scope x) (pass : ∀ σ, PassesAt (L2N.CX X.prog X.w) X σ (E σ)) (hd : (x == ("__debug__" : Str)) = false := by decide) (hcd : (x == ("__classdict__" : Str)) = false := by decide) :
    PE X (.Call (.Name x p) [] [] pos) (tCallZ X.prog X.w X.K X.mg X.base k i E) := by
  refine ⟨fun pins s σ H Q I ⟨f, F, e1, e2, run⟩ => ?_⟩
  refine wpAny_Call_Name_kw (thn ((pe_var (pos := p) hN hv hd hcd).run pins s σ H (fun v H1 => v = .ref f ∧ H1 = H) I ⟨.ref f, e1, rfl, rfl⟩) fun u s1 ⟨v, H1, I1, r1, ev, eH⟩ => ?_)
  subst ev eH
  obtain rfl : u = Value.ref f := r1
  obtain ⟨od, sl, doc, pm, ctv, ho⟩ := lmO_at I1.hok e2
  refine PySem.W.callWith_F0 (first := []) ⟨_, _, _, _, ho⟩ ?_
  show wpAny _ _ (call (.ref f) []) _ _ _
  refine wpAny_call (codeAny_mono (run X.A X.stack s1 (fun _ _ => False) room I1.env0) fun r s' hq => ?_)
  cases r with
  | error er => exact pass σ pins H1 s1 er s' I1 hq
  | ok fl =>
    cases fl with
    | ret u =>
      obtain ⟨_, _, _, _, _, _, _, z⟩ := hq
      exact z.elim
    | next => exact hq.elim
    | brk => exact hq.elim
    | cont => exact hq.elim
end
end SX

set_option Elab.async false
set_option linter.all false
set_option maxRecDepth 100000
set_option maxHeartbeats 4000000
/-! A list comprehension out of which an exception of a call flies. -/
namespace SX
open PySem PySem.Spec PyProof.Rows L2
section
variable {M : Model} {A : Around} {E : Value → Shared → Prop} {s : Shared} {env : Env}
def postX (M : Model) (A : Around) (E : Value → Shared → Prop) (Q : Value → Shared → Prop) (acc : Value) (ce : Env) (r : Result) (s' : Shared) : Prop :=
  match r with
  | .ok _ => ∃ m, s'.heap.Ns ce.locals m ∧ ∀ h', Heap.SameBut ce.locals s'.heap h' → Q acc { s' with heap := h' }
  | .error x => ∃ m, s'.heap.Ns ce.locals m ∧ ∀ h', Heap.SameBut ce.locals s'.heap h' → wpAny M A (passOn "comprehension.variables-let-go" x ce : Sem Value) (fun _ _ => False) E { s' with heap := h' }
theorem comp_x {e : Expr} {scope : Scope} {pos : Pos} {newAcc first : Sem Value} {g : Comprehension} {gs : List Comprehension} {cl : List (Str × Addr)} {Q : Value → Shared → Prop} (hcl : clausesOf e = g :: gs) (hs : ∀ x, foldedSetIterable g.iter env x = pure x)
    (clos : closureFor scope env = pure cl) (kind : scope.kind = .function) (names : ∀ x ∈ scope.names, x.2 = .local → scope.names.lookup x.1 = some .local)
    (h : wpAny M A first (fun x s₁ => wpAny M A (pyIter x) (fun it s₂ => wpAny M A newAcc (fun acc s₃ => wpAny M A (newFunctionEnv scope env.globals cl [] env.qual none .none (some env)) (fun cenv s₄ =>
      codeAny M A (.compStart e 0 it acc { cenv with scope := relabel scope env }) (postX M A E Q acc { cenv with scope := relabel scope env }) s₄) E s₃) E s₂) E s₁) E s) :
    wpAny M A (comprehension e scope env pos newAcc false first none) Q E s := by
  unfold comprehension
  rw [clos, hcl]
  refine wpAny_bind (wpAny_mono h (fun x s₁ h₁ => wpAny_bind (wpAny_standAt (wpAny_bind (wpAny_of_eq (hs x) (wpAny_bind (wpAny_holding (wpAny_mono h₁ (fun it s₂ h₂ => ?_) fun _ _ y => y))))))) fun _ _ y => y)
  refine wpAny_standIf (wpAny_bind (wpAny_mono h₂ (fun acc s₃ h₃ => wpAny_bind (wpAny_pure (wpAny_bind (wpAny_mono h₃ (fun cenv s₄ h₄ => ?_) fun _ _ y => y)))) fun _ _ y => y))
  dsimp only
  have loc : ∀ x ∈ (scope.names.filter fun x => (x.2 == .local || x.2 == .cell) && x.1 != (".0" : Str)).reverse, x.2 = .local → Env.kindOf { cenv with scope := relabel scope env } x.1 = some .local := fun x hx hl =>
    lookup_relabel_local (names x (List.mem_filter.mp (List.mem_reverse.mp hx)).1 hl)
  refine wpAny_holding (wpAny_bind (wpAny_attempt (wpAny_holding (wpAny_run (codeAny_mono h₄ fun r s' hr => ?_)))))
  cases r with
  | ok f =>
    obtain ⟨m, hn, hr⟩ := hr
    exact wpAny_bind (wpAny_holding (wpAny_comp_letGo (cenv := { cenv with scope := relabel scope env }) kind _ s' m loc hn fun h' m' _ hs' => wpAny_pure (hr h' hs')))
  | error x =>
    obtain ⟨m, hn, hr⟩ := hr
    exact wpAny_bind (wpAny_holding (wpAny_comp_letGo (cenv := { cenv with scope := relabel scope env }) kind _ s' m loc hn fun h' m' _ hs' => wpAny_mono (hr h' hs') (fun _ _ f => f.elim) fun _ _ y => y))
end
section
variable {X : Cx} {pins : List (Addr × Obj)} {σ : L2.St} {H : Hp}
theorem held_less {B h h' : Heap} {l : List Env} {a C : Addr} {Z : Obj → Prop} {L : Addr} (x : HandSPX.HeldZ B l a Z L h) (nC : a ≠ C) (sb : Heap.SameBut C h h') (noF : ∀ vs o, h.get? C = some o → o.data ≠ .fields vs) (nfr : C ∉ frs l) : HandSPX.HeldZ (PySem.W.hideAll B [C]) l a Z L h' := by
  obtain ⟨k1, k2, k3, oe, vs, T, oT, ts, e1, e2, e3, e4, e5, e6, e7, e8, e9⟩ := x
  have nT : T ≠ C := fun z => by
    rw [z] at e7
    exact noF ts oT e7 e8
  have less : ∀ b, B.get? b = none → (PySem.W.hideAll B [C]).get? b = none := fun b z => by
    cases q : (PySem.W.hideAll B [C]).get? b with
    | none => rfl
    | some o =>
      rw [PySem.W.of_hideAll _ q] at z
      cases z
  refine ⟨fun b o e => ?_, less _ k2, ?_, oe, vs, T, oT, ts, (sb.2 a nC).trans e1, e2, e3, e4, less _ e5, e6, (sb.2 T nT).trans e7, e8, e9⟩
  · by_cases q : b = C
    · rw [q, PySem.W.hideAll_none [C] (List.mem_singleton.mpr rfl)] at e
      cases e
    · exact (sb.2 b q).trans (k1 b o (PySem.W.of_hideAll _ e))
  · have f1 : h.FunFrames (PySem.W.hideAll B [C]) l := funFrames_none k3 fun b hb => less b (k3.mem hb).1
    have all : ∀ (l : List Env), C ∉ frs l → h.FunFrames (PySem.W.hideAll B [C]) l → h'.FunFrames (PySem.W.hideAll B [C]) l := by
      intro l
      induction l with
      | nil => intro _ _; trivial
      | cons env r ih =>
        intro n ⟨hk, ⟨L, o, hf, hn, ho, hd⟩, hr⟩
        have nL : L ≠ C := fun z => n (by unfold frs; rw [List.filterMap_cons, hf, z]; exact List.mem_cons_self)
        exact ⟨hk, ⟨L, o, hf, hn, (sb.2 L nL).trans ho, hd⟩, ih (fun z => n (by unfold frs; rw [List.filterMap_cons, hf]; exact List.mem_cons_of_mem _ z)) hr⟩
    exact all l nfr f1
/-- an exception of a call within the block, out of the comprehension -/
theorem block_out {s3 : Shared} {H3 : Hp} {scope : Scope} {cl : List (Str × Addr)} {fp : List Addr} {E : XK} {Q : Value → Shared → Prop} {acc : Value} (hs : X.stack = X.env :: X.outer) (hf : X.env.frame = some X.env.locals) (tk : L2N.Takes X fun cls d _ H => E cls d H)
    (I3 : Inv X pins σ H3 s3) (f3 : ∀ b ∈ fp, FpOk X pins H3 b) {xe : Value → Shared → Prop} :
    ∀ (pb : List (Addr × Obj)) (σb : L2.St) (Hb : Hp) (s : Shared) (e : Value) (s' : Shared), Inv ({ X.blk s3 H3 scope (compEnvC scope cl s3.heap.objs.size X.env) fp with xe := xe } : Cx) pb σb Hb s → L2N.CX X.prog X.w X.stack Hb s E e s' →
      notedBy (model X.prog X.w) X.A (compEnvC scope cl s3.heap.objs.size X.env) (fun e s' => postX (model X.prog X.w) X.A X.xe Q acc (compEnvC scope cl s3.heap.objs.size X.env) (.error e) s') e s' := by
  intro pb σb Hb s e s' I c
  have fl0 := c
  obtain ⟨a0, B0, H0, cls0, d0, rfl, flying, _, _, _, _, _, _⟩ := fl0
  obtain ⟨a, B, sI, pins', σ', H', cls, d, ea, J, nb, up, sky, na, os, ag, hE⟩ := L2N.XE.of_call (W := fun cls d _ H => E cls d H) I (fun _ _ _ h => h) c
  cases ea
  obtain ⟨_, _, _, oe0, vs0, T0, oT0, ts0, a1, a2, a3, a4, a5, a6, a7, a8, a9⟩ := flying
  have fl : HandSPX.FlyingZ B X.stack a0 (L2N.Zn cls d) s'.heap := by
    rcases sky with ⟨_, _, _, oe, vs, e1, _, e3, e4⟩ | z | ⟨_, _, _, oe, vs, T, oT, ts, e1, _, e3, e4, _, _, e7, e8, e9⟩
    · rw [a1] at e1
      cases e1
      rw [a3] at e3
      cases e3
      rw [a4] at e4
      cases e4
    · exact z
    · rw [a1] at e1
      cases e1
      rw [a3] at e3
      cases e3
      rw [a4] at e4
      cases e4
      rw [a7] at e7
      cases e7
      rw [a8] at e8
      cases e8
      rw [a9] at e9
      cases e9
  have frames : X.A.frames = some (X.env :: X.outer) := by rw [I3.ok.frames, hs]
  rw [hs] at fl
  show wpAny _ X.A (noteFrame (.ref a0) X.env) _ _ _
  refine PXN.looks_onZ L2N.Zn.steady frames hf fl fun h1 hh up1 => ?_
  obtain ⟨m, nsI, _⟩ := J.loc
  have nsI : sI.heap.Ns s3.heap.objs.size m := nsI
  have ns1 : h1.Ns s3.heap.objs.size m := (up.trans up1).ns nsI
  refine ⟨m, ns1, fun h2 sb => ?_⟩
  generalize hC : s3.heap.objs.size = C at ns1 nsI sb
  have nfr : C ∉ frs (X.env :: X.outer) := fun z => by
    obtain ⟨_, o, e1, _⟩ := I3.stack.mem (by rw [hs]; exact z)
    have lt := Heap.lt_size e1
    rw [hC] at lt
    exact Nat.lt_irrefl _ lt
  obtain ⟨oC, esC, epC, g1, g2, _⟩ := id ns1
  have noF : ∀ vs o, h1.get? C = some o → o.data ≠ .fields vs := fun vs o e z => by
    rw [g1] at e
    cases e
    rw [g2] at z
    cases z
  have neC : a0 ≠ C := fun z => by
    obtain ⟨_, _, _, oe, vs, _, _, _, e1, _, e3, _⟩ := hh
    rw [z] at e1
    exact noF vs oe e1 e3
  have hh2 := held_less hh neC sb noF nfr
  have out : ∀ h3, HandSPX.HeldZ (PySem.W.hideAll B [C]) (X.env :: X.outer) a0 (L2N.Zn cls d) X.env.locals h3 → h2.UpToSlots h3 → X.xe (.ref a0) { s' with heap := h3 } := fun h3 hh3 up3 => by
    have old : ∀ {b o}, s3.heap.get? b = some o → b ≠ C := fun {b o} e z => by
      have lt := Heap.lt_size e
      rw [hC, z] at lt
      exact Nat.lt_irrefl _ lt
    have less : ∀ {b o}, sI.heap.get? b = some o → b ≠ C → (PySem.W.hideAll sI.heap [C]).get? b = some o := fun {b o} e n => PySem.W.hideAll_get _ e fun z => n (List.mem_singleton.mp z)
    have nH : H' C = none := by
      have z : H' (compEnvC scope cl s3.heap.objs.size X.env).locals = none := J.free
      rw [← hC]
      exact z
    have base := J.base
    have J2 : Inv X pins σ H' { sI with heap := PySem.W.hideAll sI.heap [C] } := I3.call' (ch := fp) (show _ from J.os) ⟨fun b o e n hb hx => less (base.keep b o e n hb hx) (old e), fun b o e n hb hx => by
        obtain ⟨sl, z⟩ := base.slot b o e n hb hx
        exact ⟨sl, less z (old e)⟩, base.free, fun b o e hx => by
        obtain ⟨o', z⟩ := base.there b o e hx
        exact ⟨o', less z (old e)⟩, base.tups, base.frzs, base.tbls⟩ (fun b u e => (J.hok b u e).stay (fun c v hc z => less z fun y => ?_) (fun _ z => z) fun _ _ z => z) J.bare fun b hb => ⟨(f3 b hb).2.2.2.1, (f3 b hb).2.1, (f3 b hb).2.2.2.2.1, (f3 b hb).2.2.2.2.2⟩
    · refine tk _ _ ⟨a0, PySem.W.hideAll B [C], _, pins, σ, H', cls, d, rfl, J2, fun b o e hb => ?_, ?_, .inr (.inr (by rw [hs]; exact hh3)), na, os, ag, hE⟩
      · have e1 := PySem.W.of_hideAll _ e
        have n : b ≠ C := fun z => by
          rw [z, PySem.W.hideAll_none [C] (List.mem_singleton.mpr rfl)] at e
          cases e
        exact PySem.W.hideAll_get _ (nb b o e1 hb) fun z => n (List.mem_singleton.mp z)
      · have u1 : (PySem.W.hideAll sI.heap [C]).UpToSlots h2 := fun b o e hn => by
          have e1 := PySem.W.of_hideAll _ e
          have n : b ≠ C := fun z => by
            rw [z, PySem.W.hideAll_none [C] (List.mem_singleton.mpr rfl)] at e
            cases e
          obtain ⟨sl, z⟩ := (up.trans up1) b o e1 hn
          exact ⟨sl, (sb.2 b n).trans z⟩
        exact u1.trans up3
    · rw [y] at hc
      rcases hc with z | z
      · rw [← z, nH] at e
        cases e
      · rw [nH] at z
        cases z
  obtain ⟨k1, k2, k3, oe, vs, T, oT, ts, b1, b2, b3, b4, b5, b6, b7, b8, b9⟩ := id hh2
  unfold PySem.passOn
  refine wpAny_bind (wpAny_field b1 b3 b4 ?_)
  rw [if_neg (show ¬ ((Value.ref T == Value.none) = true) from by simp)]
  have fin : wpAny (model X.prog X.w) X.A (setFlight (.ref a0) X.env.frame) (fun _ s4 => wpAny (model X.prog X.w) X.A (throw (.ref a0) : Sem Value) (fun _ _ => False) X.xe s4) X.xe { s' with heap := h2 } := by
    rw [hf]
    exact HandSPX.setFlight_onZ hh2 fun h3 hh3 up3 => wpAny_throw (out h3 hh3 up3)
  first
    | exact wpAny_bind (wpAny_pure (wpAny_bind fin))
    | exact wpAny_bind fin
abbrev blkE (X : Cx) (s : Shared) (H : Hp) (scope : Scope) (ce : Env) (fp : List Addr) (xe : Value → Shared → Prop) : Cx := { X.blk s H scope ce fp with xe := xe }
/-- [elt for target in iter]; what elt calls may raise -/
theorem pe_lcX {elt tg iter : Expr} {ifs : List Expr} {scope : Scope} {own : List (Str × Nat)} {pos : Pos} {wi : TI} {g : TG} {tt : TT} {te : TE} {E : XK} (hs : X.stack = X.env :: X.outer) (hf : X.env.frame = some X.env.locals) (tk : L2N.Takes X fun cls d _ H => E cls d H) (calm : X.calm = true) (nd : X.N.Nodup)
    (hi : PI X tg iter wi) (ok : BlkOk X.N X.env.scope scope own) (hg : ∀ (s : Shared) (H : Hp) (C : Addr) (cl : List (Str × Addr)) (fp : List Addr), PG (X.blk s H scope (compEnvC scope cl C X.env) fp) tg g)
    (ht : ∀ (s : Shared) (H : Hp) (C : Addr) (cl : List (Str × Addr)) (fp : List Addr) (xe : Value → Shared → Prop), (∀ σ, PassesAt (L2N.CX X.prog X.w) (blkE X s H scope (compEnvC scope cl C X.env) fp xe) σ E) → PTs (blkE X s H scope (compEnvC scope cl C X.env) fp xe) ifs tt)
    (he : ∀ (s : Shared) (H : Hp) (C : Addr) (cl : List (Str × Addr)) (fp : List Addr) (xe : Value → Shared → Prop), (∀ σ, PassesAt (L2N.CX X.prog X.w) (blkE X s H scope (compEnvC scope cl C X.env) fp xe) σ E) → PE (blkE X s H scope (compEnvC scope cl C X.env) fp xe) elt te)
    (fs : ∀ x, foldedSetIterable iter X.env x = pure x := by intro _; rfl) : PE X (.ListComp elt [⟨tg, iter, ifs, 0⟩] scope pos) (tLc wi g tt te (own.map (·.2))) := by
  refine ⟨fun pins s σ H Q I h => ?_⟩
  rw [eval_ListComp]
  have free : ∀ y ∈ scope.names, y.2 = .free → ∃ c, X.env.cells.lookup y.1 = some c := fun y hy e => (ok.free y hy e).elim (fun k => I.ok.has _ (.inl k)) fun k => I.ok.has _ (.inr k)
  refine comp_x rfl fs (closure_ok free) ok.kind (fun y hy e => by rw [ok.uniq y hy, e]) (thn (hi.run pins s σ H _ I h) fun xv s1 hx => thn hx fun itv s2 h2 => ?_)
  obtain ⟨it, fp, tn, J, H2, e, I2, T, st2, f2, q⟩ := h2
  subst e
  refine wpAny_newObj_type (newEnv_comp ?_) (by show 0 ≤ sizeLine; decide)
  generalize hD : s2.heap.objs.size = D
  have nD : H2 D = none := I2.hok.fresh (Nat.le_of_eq hD)
  obtain ⟨W, ⟨m0, w0⟩, turn⟩ := q D nD
  generalize hs3 : ({ s2 with heap := s2.heap.push { cls := .type "list", data := .seq ([] : List Value).toArray } } : Shared) = s3
  have I3 : Inv X pins σ (upd H2 D (.lst [])) s3 := by
    rw [← hs3]
    refine I2.laid (t' := s2.toks) (fun b o e => Heap.get?_push_of_some _ e) (Nat.le_of_eq hD) ⟨Nat.zero_le _, [], 0, .nil, ?_⟩
    rw [← hD]
    exact Heap.get?_push_size _ rfl
  have h3 : s3.heap = s2.heap.push { cls := .type "list", data := .seq ([] : List Value).toArray } := by rw [← hs3]
  have f3 : ∀ b ∈ fp, FpOk X pins (upd H2 D (.lst [])) b ∧ b < s3.heap.objs.size := fun b hb => by
    obtain ⟨o, eo, _⟩ := T.obj _ _ st2 b hb
    have lt := Heap.lt_size eo
    refine ⟨⟨?_, (f2 b hb).2⟩, by rw [h3, Heap.size_push]; exact Nat.lt_succ_of_lt lt⟩
    rw [upd_ne (by rw [← hD]; exact Nat.ne_of_lt lt)]
    exact (f2 b hb).1
  have st3 : tn 0 s3.heap := T.keep _ _ _ st2 fun b _ o e => by rw [h3]; exact Heap.get?_push_of_some _ e
  have I4 := block_start I3 ok nd f3
  show codeAny _ _ (.compStart (.ListComp elt [⟨tg, iter, ifs, 0⟩] scope pos) 0 (.ref it) (.ref D) (compEnvC scope (cellsFrom (s3.heap.objs.size + 1) scope.names (cloFrom X.env.cells scope.names [])) s3.heap.objs.size X.env))
    (postX (model X.prog X.w) X.A X.xe (EP X pins σ Q) (.ref D) (compEnvC scope (cellsFrom (s3.heap.objs.size + 1) scope.names (cloFrom X.env.cells scope.names [])) s3.heap.objs.size X.env)) { s3 with heap := pushCells (s3.heap.push { cls := .type "dict", data := .dict #[] }) scope.names }
  generalize hcl : cellsFrom (s3.heap.objs.size + 1) scope.names (cloFrom X.env.cells scope.names []) = cl at I4 ⊢
  generalize hH3 : upd H2 D (.lst []) = H3 at I3 I4 w0 f3
  generalize hs4 : ({ s3 with heap := pushCells (s3.heap.push { cls := .type "dict", data := .dict #[] }) scope.names } : Shared) = s4 at I4 ⊢
  have st4 : tn 0 s4.heap := T.keep _ _ _ st3 fun b _ o e => by rw [← hs4]; exact pushCells_keeps _ _ _ _ (Heap.get?_push_of_some _ e)
  have nfp : ∀ b ∈ fp, H3 b = none := fun b hb => (f3 b hb).1.1
  have fly := fun {xe} => block_out (acc := .ref D) (Q := EP X pins σ Q) (E := E) (scope := scope) (cl := cl) (fp := fp) hs hf tk I3 (fun b hb => (f3 b hb).1) (xe := xe)
  have pg := hg s3 H3 s3.heap.objs.size cl fp
  have pt := ht s3 H3 s3.heap.objs.size cl fp (notedBy (model X.prog X.w) X.A (compEnvC scope cl s3.heap.objs.size X.env) fun e s' => postX (model X.prog X.w) X.A X.xe (EP X pins σ Q) (.ref D) (compEnvC scope cl s3.heap.objs.size X.env) (.error e) s') (fun σb pb Hb s e s' I c => fly pb σb Hb s e s' I c)
  have pe := he s3 H3 s3.heap.objs.size cl fp (notedBy (model X.prog X.w) X.A (compEnvC scope cl s3.heap.objs.size X.env) fun e s' => postX (model X.prog X.w) X.A X.xe (EP X pins σ Q) (.ref D) (compEnvC scope cl s3.heap.objs.size X.env) (.error e) s') (fun σb pb Hb s e s' I c => fly pb σb Hb s e s' I c)
  have stat : ∀ {σ' : L2.St} {H' : Hp} {s' : Shared}, Inv (X.blk s3 H3 scope (compEnvC scope cl s3.heap.objs.size X.env) fp) [] σ' H' s' → (∀ b ∈ fp, H' b = none) → ∀ b ∈ fp, FpOk (X.blk s3 H3 scope (compEnvC scope cl s3.heap.objs.size X.env) fp) [] H' b := fun {σ' H' s'} I' hn b hb =>
    ⟨hn b hb, (I'.ok.exf b hb).1, I'.ok.exfs b hb, .inl hb, fun x c e => (I'.ok.exf b hb).2 x c e, fun p hp => absurd (show p ∈ ([] : List (Addr × Obj)) ++ [] from hp) (by simp)⟩
  have loop : codeAny (model X.prog X.w) X.A (.compLoop (.ListComp elt [⟨tg, iter, ifs, 0⟩] scope pos) 0 (.ref it) (.ref D) (compEnvC scope cl s3.heap.objs.size X.env)) (postX (model X.prog X.w) X.A X.xe (EP X pins σ Q) (.ref D) (compEnvC scope cl s3.heap.objs.size X.env)) s4 := by
    refine compLoop_any (fun n s' => ∃ i H', Inv (X.blk s3 H3 scope (compEnvC scope cl s3.heap.objs.size X.env) fp) [] (wipe σ (own.map (·.2))) H' s' ∧ tn i s'.heap ∧ (∀ b ∈ fp, H' b = none) ∧ W i n H') ?_ m0 ⟨0, H3, I4, st4, nfp, w0⟩
    rintro n s5 ⟨i, H5, I5, st5, n5, w5⟩
    rcases turn i n H5 w5 with ⟨stop, qq⟩ | ⟨go, Nx, hNx, step⟩
    · refine thnF (T.done (X.blk s3 H3 scope (compEnvC scope cl s3.heap.objs.size X.env) fp) rfl rfl rfl calm i [] s5 _ H5 (fun _ _ => False) I5 (stat I5 n5) st5 stop) fun r s6 ⟨hr, I6⟩ => ?_
      subst hr
      have I7 : Inv X pins σ H5 s6 := I3.call' (ch := fp) I6.os I6.base I6.hok I6.bare fun b hb => ⟨(f3 b hb).1.2.2.2.1, (f3 b hb).1.2.1, (f3 b hb).1.2.2.2.2.1, (f3 b hb).1.2.2.2.2.2⟩
      obtain ⟨m, hn, _⟩ := I6.loc
      obtain ⟨c0, c1, c2, c3, c4, c5⟩ := I3.fpOk (H' := H5) (Nat.le_refl _) (show H5 (compEnvC scope cl s3.heap.objs.size X.env).locals = none from I6.free)
      exact ⟨m, hn, fun h'' sb => ⟨.ref D, H5, I7.turned (t' := s6.toks) (fun b o hb e => (sb.2 b hb).trans e) c0 c1 c3 c4 c5, rfl, qq⟩⟩
    · refine thnF (T.item (X.blk s3 H3 scope (compEnvC scope cl s3.heap.objs.size X.env) fp) rfl rfl rfl calm i [] s5 _ H5 (fun _ _ => False) I5 (stat I5 n5) st5 go) fun r s6 ⟨u, hr, h6⟩ => ?_
      subst hr
      refine thnF h6 fun _ s7 ⟨x, H7, I7, r7, y7, st7, n7⟩ => ?_
      have I7' := I7.pinned (stat I7 n7) (T.obj _ _ st7)
      refine thnF (pg.run _ s7 _ H7 x u _ I7' r7 (step x H7 y7)) fun _ s8 ⟨σ8, H8, I8, w8, q8⟩ => ?_
      have I8' : Inv (blkE X s3 H3 scope (compEnvC scope cl s3.heap.objs.size X.env) fp (notedBy (model X.prog X.w) X.A (compEnvC scope cl s3.heap.objs.size X.env) fun e s' => postX (model X.prog X.w) X.A X.xe (EP X pins σ Q) (.ref D) (compEnvC scope cl s3.heap.objs.size X.env) (.error e) s')) ([] ++ pinsAt fp s7.heap) σ8 H8 s8 := Inv.unwish (E := fun _ _ => False) I8
      refine thn (pt.run _ s8 σ8 H8 _ I8' q8) fun b s8b ⟨H8b, I8b, q8b⟩ => ?_
      -- the turn's end
      have fin : ∀ {s' : Shared} {H' : Hp}, Inv (X.blk s3 H3 scope (compEnvC scope cl s3.heap.objs.size X.env) fp) ([] ++ pinsAt fp s7.heap) σ8 H' s' → Nx H' → ∃ m, m < n ∧ ∃ i H', Inv (X.blk s3 H3 scope (compEnvC scope cl s3.heap.objs.size X.env) fp) [] (wipe σ (own.map (·.2))) H' s' ∧ tn i s'.heap ∧ (∀ b ∈ fp, H' b = none) ∧ W i m H' := fun {s' H'} I' nx => by
        obtain ⟨m', hm, w'⟩ := hNx _ nx
        have pin' : ∀ b ∈ fp, ∀ o, s7.heap.get? b = some o → s'.heap.get? b = some o ∧ H' b = none := fun b hb o e =>
          let z := I'.pin (b, o) (List.mem_append_right _ (List.mem_append_right _ (mem_pinsAt hb e)))
          ⟨z.1, z.2.1⟩
        have hl : (wipe σ (own.map (·.2))).length = σ8.length := by rw [← w8, wipe_length]
        refine ⟨m', hm, i + 1, _, (I'.unpinned (pins := [])).weak hl (fun j v e => ?_), T.keep _ _ _ st7 fun b hb o e => (pin' b hb o e).1, fun b hb => ?_, w'⟩
        · rw [← w8] at e
          exact (wipe_some e).1
        · obtain ⟨o, e, _⟩ := T.obj _ _ st7 b hb
          exact (pin' b hb o e).2
      cases b with
      | false =>
        simp only [Bool.false_eq_true, if_false] at q8b ⊢
        exact fin (Inv.unwish (X := X.blk s3 H3 scope (compEnvC scope cl s3.heap.objs.size X.env) fp) I8b) q8b
      | true =>
      simp only [if_true] at q8b ⊢
      refine thn (pe.run _ s8b σ8 H8b _ I8b q8b) fun z s9 ⟨yv, H9, I9, r9, acc, hD9, hz9, nx⟩ => ?_
      refine app_ok (X := X.blk s3 H3 scope (compEnvC scope cl s3.heap.objs.size X.env) fp) (Inv.unwish (X := X.blk s3 H3 scope (compEnvC scope cl s3.heap.objs.size X.env) fp) I9) hD9 hz9 r9 fun s10 I10 => ?_
      exact fin I10 nx
  exact codeAny_compStart_list loop (T.self X.A 0 _ _ _ st4 loop)
end
end SX

set_option Elab.async false
set_option linter.all false
set_option maxRecDepth 100000
set_option maxHeartbeats 4000000
/-! for over a list, while an exception is handled. -/
namespace SX
open PySem PySem.Spec PyProof.Rows L2 L2H HotX
theorem turn_listH {P : Program} {w : World} {K : PySem.W.Frag} {tg : Expr} (a it : Addr) : TurnH P w K tg (Itl K a) [it] it (fun i h => h.IsListIter it a i) where
  mem := (turn_list (P := P) (w := w) (K := K) (tg := tg) a it).mem
  obj := (turn_list (P := P) (w := w) (K := K) (tg := tg) a it).obj
  keep := (turn_list (P := P) (w := w) (K := K) (tg := tg) a it).keep
  self := (turn_list (P := P) (w := w) (K := K) (tg := tg) a it).self
  item := by
    intro X hP hw hK hc i pins s σ H E I fp st ⟨xs, x, at_, ix⟩
    subst hP hw hK
    obtain ⟨its, rv, pl, _⟩ := I.list at_
    obtain ⟨u, hu, ru⟩ := rv.get ix
    obtain ⟨f0, f1, _, f3, f4, f5⟩ := fp it (List.mem_singleton.mpr rfl)
    refine wpAny_pyNext_list_item st pl.isList (x := u) (by simpa using hu) fun h' st' sb => ?_
    obtain ⟨o, e, c, d⟩ := id st'
    exact ⟨u, rfl, go_of (s := { s with heap := h' }) e c d (by decide) ⟨x, H, I.turned (t' := s.toks) (fun b o hb e => (sb.2 b hb).trans e) f0 f1 f3 f4 f5, ru, ⟨rfl, fun ys hy => by rw [I.list_inj hy at_]; exact ix⟩, st', fun b hb => (fp b hb).1⟩⟩
  done := by
    intro X hP hw hK hc i pins s σ H E I fp st ⟨xs, at_, le⟩
    subst hP hw hK
    obtain ⟨its, rv, pl, _⟩ := I.list at_
    obtain ⟨f0, f1, _, f3, f4, f5⟩ := fp it (List.mem_singleton.mpr rfl)
    have len := rv.length
    obtain ⟨p, hot, hin⟩ := hc
    obtain ⟨hh, vs, dv, cv⟩ := hot
    have pz := I.pin p (List.mem_append_left _ hin)
    exact lstIt_end_hot (x1 := p.1) ⟨hh, p.2, vs, pz.1, dv, cv⟩ (f5 p (List.mem_append_left _ hin)) st pl.isList (by simp; omega) fun h' eb => ⟨rfl, I.turned (t' := s.toks) (fun b o hb e => eb b o hb e) f0 f1 f3 f4 f5⟩
theorem pi_listH {X : Cx} {tg l : Expr} {tl : TE} (hl : PE X l tl) : PIH X tg l (iList X.K tl) := by
  refine ⟨fun pins s σ H R I h => ?_⟩
  refine thn (hl.run pins s σ H _ I h) fun v s1 ⟨x, H1, I1, r1, a, e, ⟨xs, at_⟩, q⟩ => ?_
  subst e
  obtain rfl : v = Value.ref a := r1
  obtain ⟨its, rv, pl, _⟩ := I1.list at_
  refine wpAny_pyIter_list pl.isList ⟨s1.heap.objs.size, [s1.heap.objs.size], _, _, H1, rfl, I1.kept (t' := s1.toks) fun b o e => Heap.get?_push_of_some _ e, turn_listH a _, ⟨_, Heap.get?_push_size _ rfl, rfl, rfl⟩, fun b hb => ?_, q⟩
  obtain rfl := List.mem_singleton.mp hb
  exact I1.fpOk (Nat.le_refl _) (I1.hok.fresh (Nat.le_refl _))
end SX

set_option Elab.async false
set_option linter.all false
set_option maxRecDepth 100000
set_option maxHeartbeats 4000000
/-! k02: all refusals: BadPile, BadDeed, BadRule, NoHand. -/
namespace SS
open PySem L2 SX
local macro_rules | `(tactic| walk_at "q") => `(tactic| ((try dsimp only); refine s_seq ?_))
/-- kinds of refusals -/
inductive Kd where
  | pile (n : Nat) | deed (h n : Nat) | rule | hand
def KdAt (c : Nat → Addr) : Kd → Value → Option Addr → Hp → Prop
  | .pile n, cls, d, H => cls = .ref (c 0) ∧ ∃ dd, d = some dd ∧ H dd = some (.xd (bpF (n : Nat)))
  | .deed h n, cls, d, H => cls = .ref (c 1) ∧ ∃ dd, d = some dd ∧ H dd = some (.xd (bdF (h : Nat) (n : Nat)))
  | .rule, cls, d, _ => cls = .ref (c 2) ∧ d = none
  | .hand, cls, d, _ => cls = .ref (c 3) ∧ d = none
def Wish (c : Nat → Addr) (k : Kd) (H : Hp) (E : XK) : Prop := ∀ cls d H', KdAt c k cls d H' → Same H H' → E cls d H'
theorem Wish.later {c : Nat → Addr} {k : Kd} {H H1 : Hp} {E : XK} (w : Wish c k H E) (s : Same H H1) : Wish c k H1 E := fun cls d H' a b => w cls d H' a (Same.trans s b)
theorem Wish.pile {c : Nat → Addr} {n : Nat} {H : Hp} {E : XK} (w : Wish c (.pile n) H E) : ∀ d, H d = none → E (.ref (c 0)) (some d) (upd H d (.xd (bpF (n : Nat)))) := fun d hd => w _ _ _ ⟨rfl, d, rfl, upd_same⟩ (Same.new hd)
theorem Wish.deed {c : Nat → Addr} {h n : Nat} {H : Hp} {E : XK} (w : Wish c (.deed h n) H E) : ∀ d, H d = none → E (.ref (c 1)) (some d) (upd H d (.xd (bdF (h : Nat) (n : Nat)))) := fun d hd => w _ _ _ ⟨rfl, d, rfl, upd_same⟩ (Same.new hd)
theorem Wish.rule {c : Nat → Addr} {H : Hp} {E : XK} (w : Wish c .rule H E) : E (.ref (c 2)) none H := w _ _ _ ⟨rfl, rfl⟩ (Same.refl H)
theorem Wish.hand {c : Nat → Addr} {H : Hp} {E : XK} (w : Wish c .hand H E) : E (.ref (c 3)) none H := w _ _ _ ⟨rfl, rfl⟩ (Same.refl H)
/-- raise X("..") -/
def tRzO (C : Addr) (W : WX) : TS := fun _ σ H => W (.ref C) none σ H
/-! ### what is no rule -/
inductive RX where
  | one (w : Str) | cnt (w : Str) (i : Int) | mrk (is : List Int)
def RXAt (H : Hp) (a : Addr) : RX → Prop
  | .one w => H a = some (.tup [.str w])
  | .cnt w i => H a = some (.tup [.str w, .int i])
  | .mrk is => ∃ t, H a = some (.tup [.str "marks", .ref t]) ∧ H t = some (.tup (is.map V.int))
def mkBad (many : Nat) (is : List Int) (k : Nat) : Prop := ∃ x, is[k]? = some x ∧ (¬ (0 ≤ x ∧ x < (many : Nat)) ∨ (0 < k ∧ ∃ y, is[k - 1]? = some y ∧ x ≤ y))
def RxBad (many : Nat) : RX → Prop
  | .one w => PyData.strOk w = true ∧ w ≠ "keeps"
  | .cnt w i => w ≠ "marks" ∧ (w = "counts" → ¬ (1 ≤ i ∧ i ≤ 15)) ∧ PyData.strOk w = true
  | .mrk is => is.length ≤ 1000 ∧ ∃ k, mkBad many is k
theorem RXAt.mono {H H' : Hp} (t : Tups H H') {a : Addr} : ∀ {x : RX}, RXAt H a x → RXAt H' a x
  | .one _, h => t _ _ h
  | .cnt _ _, h => t _ _ h
  | .mrk _, ⟨q, h1, h2⟩ => ⟨q, t _ _ h1, t _ _ h2⟩
def rxD : RX → PyData
  | .one w => .tuple [.str w]
  | .cnt w i => .tuple [.str w, .int i]
  | .mrk is => .tuple [.str "marks", .tuple (is.map PyData.int)]
theorem rxD_shaped {many : Nat} : ∀ r : RX, RxBad many r → SeqAt.shaped (rxD r) = true
  | .one w, h => by
    simp only [rxD, SeqAt.shaped, PyData.canLay0, PyData.canLayAll0, PyData.depth, PyData.depthAll, h.1]
    decide +kernel
  | .cnt w i, h => by
    simp only [rxD, SeqAt.shaped, PyData.canLay0, PyData.canLayAll0, PyData.depth, PyData.depthAll, h.2.2]
    decide +kernel
  | .mrk is, _ => by
    simp only [rxD, SeqAt.shaped, PyData.canLay0, PyData.canLayAll0, PyData.depth, PyData.depthAll, canLay_ints, depth_ints]
    decide +kernel
theorem rxDp {K : PySem.W.Frag} {H : Hp} {a : Addr} : ∀ {r : RX}, RXAt H a r → Dp K H (.ref a) (rxD r)
  | .one _, h => .tup (SqT.of h) (.cons (.str _) .nil)
  | .cnt _ _, h => .tup (SqT.of h) (.cons (.str _) (.cons (.int _) .nil))
  | .mrk is, ⟨t, h1, h2⟩ => .tup (SqT.of h1) (.cons (.str _) (.cons (.tup (SqT.of h2) (dp_ints _)) .nil))
theorem rxD_keeps {many : Nat} : ∀ r : RX, RxBad many r → PyData.eqv (rxD r) (.tuple [.str "keeps"]) = false
  | .one w, h => by
    have : PyData.eqv (rxD (.one w)) (.tuple [.str "keeps"]) = (PyData.eqv (.str w) (.str "keeps") && true) := rfl
    rw [this, Bool.and_true]
    show (w == "keeps") = false
    exact beq_eq_false_iff_ne.mpr h.2
  | .cnt w i, h => by
    have : PyData.eqv (rxD (.cnt w i)) (.tuple [.str "keeps"]) = (PyData.eqv (.str w) (.str "keeps") && false) := rfl
    rw [this, Bool.and_false]
  | .mrk is, h => by
    have : PyData.eqv (rxD (.mrk is)) (.tuple [.str "keeps"]) = (PyData.eqv (.str "marks") (.str "keeps") && false) := rfl
    rw [this, Bool.and_false]
def sp_need_ruleX (Z : Cs) (c : Nat → Addr) : Sp := fun vs H _ E => ∃ (a : Addr) (r : RX) (many : Nat), vs = [.ref a, .int many] ∧ RXAt H a r ∧ RxBad many r ∧ Wish c .rule H E
/-- need_rule: 0 rule, 1 many, 2 at -/
def t_need_ruleX (Z : Cs) (C : Addr) (E : XK) : TS :=
  tSeq (tIfS (tTest (tOp (rEqD Z.K) (tVar 0) (tTup (tCons (tC (.str "keeps")) tNil)))) ((tRetN)) (tNext))
    (tSeq (tIfS ((tOr (tTest (tOp rNe (tCB (rLen1 Z.K) (tCons (tVar 0) tNil)) (tC (.int 2)))) (tTest (tOp (rIn Z.K true) (tOp (rIxT Z.K) (tVar 0) (tC (.int 0))) (tTup (tCons (tC (.str "counts")) (tCons (tC (.str "marks")) tNil))))))) (tRzO C (fun c d _ H => E c d H)) (tNext))
    ((tIfS (tTest (tOp rEq (tOp (rIxT Z.K) (tVar 0) (tC (.int 0))) (tC (.str "counts")))) ((tIfS (tNot (tTest (tChain rLeI rLeI (tC (.int 1)) (tOp (rIxT Z.K) (tVar 0) (tC (.int 1))) (tC (.int 15))))) (tRzO C (fun c d _ H => E c d H)) (tNext))) ((tFor (iRng1 (tCons (tCB (rLen1 Z.K) (tCons (tOp (rIxT Z.K) (tVar 0) (tC (.int 1))) tNil)) tNil)) (gName 2) ((tIfS ((tOr (tNot (tTest (tChain rLeI rLtI (tC (.int 0)) (tOp (rIxT Z.K) (tOp (rIxT Z.K) (tVar 0) (tC (.int 1))) (tVar 2)) (tVar 1)))) ((tAnd (tTest (tOp rGtI (tVar 2) (tC (.int 0)))) (tTest (tOp rLeI (tOp (rIxT Z.K) (tOp (rIxT Z.K) (tVar 0) (tC (.int 1))) (tVar 2)) (tOp (rIxT Z.K) (tOp (rIxT Z.K) (tVar 0) (tC (.int 1))) (tOp rSubI (tVar 2) (tC (.int 1)))))))))) (tRzO C (fun c d _ H => E c d H)) (tNext))))))))
theorem pure_need_ruleX {Z : Cs} {c : Nat → Addr} (vs : List V) (H : Hp) (Q : VK) (E : XK) (h : sp_need_ruleX Z c vs H Q E) : t_need_ruleX Z (c 2) E { nx := fun _ H' => Q .non H', rt := Q } (start ["rule", "many", "at"] vs) H := by
  obtain ⟨a, r, many, rfl, R, bad, wish⟩ := h
  unfold t_need_ruleX
  walk_at "q"
  refine s_if_of (t_test_of (t_op_of (ev_var rfl _ (e_tup (ea_cons ev_c ea_nil) (by show 1 ≤ 1000; decide) fun p hp => ?_))))
  have c1 : Same H (upd H p (.tup [.str "keeps"])) := Same.new hp
  have R1 := R.mono (H' := upd H p (.tup [.str "keeps"])) fun b xs e => c1 _ _ e
  refine ⟨rxD r, .tuple [.str "keeps"], rxDp R1, .tup (SqT.of upd_same) (.cons (.str _) .nil), rxD_shaped r bad, (by decide +kernel), ⟨_, rfl, ?_⟩⟩
  rw [rxD_keeps r bad]
  refine iteF ?_
  dsimp only [tNext]
  generalize upd H p (.tup [.str "keeps"]) = H1 at c1 R1 ⊢
  have w1 := wish.later c1
  walk_at "q"
  refine s_if_of ?_
  cases r with
  | one w =>
    have R1 : H1 a = some (.tup [.str w]) := R1
    refine (et_test (b := true) (ev_is (ev_ne (ev_lenT (ev_var rfl) (SqT.of R1)) ev_c rfl) (by rfl))) _ ?_
    exact iteT w1.rule
  | cnt w i =>
    have R1 : H1 a = some (.tup [.str w, .int i]) := R1
    refine (et_test (b := false) (ev_is (ev_ne (ev_lenT (ev_var rfl) (SqT.of R1)) ev_c rfl) (by rfl))) _ ?_
    refine iteF (t_test_of (t_op_of ((ev_ixT (ev_var rfl) ev_c (SqT.of R1) (atI_nat (j := 0) rfl)) _ (e_tup (ea_cons ev_c (ea_cons ev_c ea_nil)) (by show 2 ≤ 1000; decide) fun p2 hp2 => ?_))))
    have c2 : Same H1 (upd H1 p2 (.tup [.str "counts", .str "marks"])) := Same.new hp2
    have w2 := w1.later c2
    have R2 := c2 _ _ R1
    refine ⟨p2, _, rfl, .inr (SqT.of upd_same), rfl, rfl, ⟨_, rfl, ?_⟩⟩
    rw [if_pos rfl]
    generalize upd H1 p2 (.tup [.str "counts", .str "marks"]) = H2 at c2 w2 R2 ⊢
    by_cases ew : w = "counts"
    · subst ew
      rw [show inV (V.str "counts") [.str "counts", .str "marks"] = true by decide +kernel]
      refine iteF ?_
      dsimp only [tNext]
      refine s_ifT (et_is (et_test (ev_eq (ev_ixT (ev_var rfl) ev_c (SqT.of R2) (atI_nat (j := 0) rfl)) ev_c rfl)) (decide_eq_true rfl)) ?_
      refine s_ifT (et_is (et_not (et_test (ev_leLe ev_c (ev_ixT (v := .int i) (ev_var rfl) ev_c (SqT.of R2) (atI_nat (j := 1) rfl)) ev_c))) ?_) w2.rule
      have nb := bad.2.1 rfl
      by_cases h1 : 1 ≤ i
      · rw [decide_eq_true h1, decide_eq_false (show ¬ i ≤ 15 by omega)]
        rfl
      · rw [decide_eq_false h1]
        rfl
    · have out : inV (V.str w) [.str "counts", .str "marks"] = false := by
        have n1 : eqV (V.str "counts") (V.str w) = false := beq_eq_false_iff_ne.mpr fun z => ew z.symm
        have n2 : eqV (V.str "marks") (V.str w) = false := beq_eq_false_iff_ne.mpr fun z => bad.1 z.symm
        show (eqV (V.str "counts") (V.str w) || (eqV (V.str "marks") (V.str w) || false)) = false
        rw [n1, n2]
        rfl
      rw [out]
      exact iteT w2.rule
  | mrk is =>
    obtain ⟨t, R0, Rt⟩ := R1
    refine (et_test (b := false) (ev_is (ev_ne (ev_lenT (ev_var rfl) (SqT.of R0)) ev_c rfl) (by rfl))) _ ?_
    refine iteF (t_test_of (t_op_of ((ev_ixT (ev_var rfl) ev_c (SqT.of R0) (atI_nat (j := 0) rfl)) _ (e_tup (ea_cons ev_c (ea_cons ev_c ea_nil)) (by show 2 ≤ 1000; decide) fun p2 hp2 => ?_))))
    have c2 : Same H1 (upd H1 p2 (.tup [.str "counts", .str "marks"])) := Same.new hp2
    have w2 := w1.later c2
    have R2 := c2 _ _ R0
    have R3 := c2 _ _ Rt
    refine ⟨p2, _, rfl, .inr (SqT.of upd_same), rfl, rfl, ⟨_, rfl, ?_⟩⟩
    rw [if_pos rfl]
    generalize upd H1 p2 (.tup [.str "counts", .str "marks"]) = H2 at c2 w2 R2 R3 ⊢
    rw [show inV (V.str "marks") [.str "counts", .str "marks"] = true by decide +kernel]
    refine iteF ?_
    dsimp only [tNext]
    refine s_ifF (et_is (et_test (ev_eq (ev_ixT (ev_var rfl) ev_c (SqT.of R2) (atI_nat (j := 0) rfl)) ev_c rfl)) (by decide +kernel)) ?_
    obtain ⟨zl, kb, hkb⟩ := bad
    have e1 : ∀ {s : L2.St}, s[0]? = some (some (.ref a)) → Ev (tOp (rIxT Z.K) (tVar 0) (tC (.int 1))) s H2 (.ref t) := fun h => ev_ixT (ev_var h) ev_c (SqT.of R2) (atI_nat (j := 1) rfl)
    refine s_forR (n := is.length) (ev_is (ev_lenT (e1 rfl) (SqT.of R3)) (by rw [List.length_map])) (by omega)
      (fun i s' H' => H' = H2 ∧ (∀ j, j < i → ¬ mkBad many is j) ∧ ∃ w, s' = [some (.ref a), some (.int many), w]) ⟨rfl, fun j hj => by omega, none, rfl⟩ ?_ ?_
    · rintro i s' H' hi ⟨rfl, hg, w, rfl⟩
      obtain ⟨x, hx⟩ : ∃ x, is[i]? = some x := ⟨_, List.getElem?_eq_getElem hi⟩
      have hv : (is.map V.int)[i]? = some (.int x) := by rw [List.getElem?_map, hx] <;> rfl
      have ex : Ev (tOp (rIxT Z.K) (tOp (rIxT Z.K) (tVar 0) (tC (.int 1))) (tVar 2)) [some (V.ref a), some (V.int many), some (V.int i)] H' (.int x) := ev_ixT (e1 rfl) (ev_var rfl) (SqT.of R3) (atI_nat hv)
      have more : ∀ nb : ¬ mkBad many is i, ∀ j, j < i + 1 → ¬ mkBad many is j := fun nb j hj => by
        by_cases e : j = i
        · rw [e]
          exact nb
        · exact hg j (by omega)
      have key : ∃ b, EvT (tAnd (tTest (tOp rGtI (tVar 2) (tC (.int 0)))) (tTest (tOp rLeI (tOp (rIxT Z.K) (tOp (rIxT Z.K) (tVar 0) (tC (.int 1))) (tVar 2)) (tOp (rIxT Z.K) (tOp (rIxT Z.K) (tVar 0) (tC (.int 1))) (tOp rSubI (tVar 2) (tC (.int 1))))))) [some (V.ref a), some (V.int many), some (V.int i)] H' b ∧
          (b = true ↔ 0 < i ∧ ∃ y, is[i - 1]? = some y ∧ x ≤ y) := by
        by_cases e0 : i = 0
        · subst e0
          refine ⟨false, et_is (et_and (b := true) (et_test (ev_gt (ev_var rfl) ev_c)) fun e => absurd e (by decide)) rfl, ⟨fun z => (by cases z), fun z => ?_⟩⟩
          have := z.1
          omega
        · obtain ⟨y, hy⟩ : ∃ y, is[i - 1]? = some y := ⟨_, List.getElem?_eq_getElem (by omega)⟩
          have hvy : (is.map V.int)[i - 1]? = some (.int y) := by rw [List.getElem?_map, hy] <;> rfl
          refine ⟨decide (x ≤ y), et_is (et_and (et_test (ev_gt (ev_var rfl) ev_c)) fun _ => et_test (ev_le ex (ev_ixT (e1 rfl) (ev_sub (ev_var rfl) ev_c) (SqT.of R3) (atI_pred (by omega) hvy)))) ?_, ?_⟩
          · rw [decide_eq_true (show (0 : Int) < (i : Int) by omega), Bool.true_and]
          · rw [decide_eq_true_iff]
            refine ⟨fun z => ⟨by omega, y, hy, z⟩, fun ⟨_, y', hy', z⟩ => ?_⟩
            rw [hy] at hy'
            cases hy'
            exact z
      obtain ⟨b2, ev2, iff2⟩ := key
      refine s_if (et_or (et_not (et_test (ev_leLt ev_c ex (ev_var rfl)))) fun _ => ev2) (fun _ => w2.rule) fun e => ⟨rfl, more fun ⟨x', hx', nb⟩ => ?_, _, rfl⟩
      rw [hx] at hx'
      cases hx'
      rw [Bool.or_eq_false_iff] at e
      rcases nb with nb | nb
      · have e' := e.1
        by_cases h0 : 0 ≤ x
        · rw [decide_eq_true h0, decide_eq_false (show ¬ x < (many : Int) from fun z => nb ⟨h0, z⟩)] at e'
          cases e'
        · rw [decide_eq_false h0] at e'
          cases e'
      · have := iff2.mpr nb
        rw [this] at e
        cases e.2
    · rintro s' H' ⟨rfl, hg, w, rfl⟩
      obtain ⟨x, hx, _⟩ := id hkb
      exact absurd hkb (hg kb (List.getElem?_eq_some_iff.mp hx).1)
end SS

set_option Elab.async false
set_option linter.all false
set_option maxRecDepth 100000
set_option maxHeartbeats 4000000
/-! k02: values, programs and rules that cannot be, handed to all that take them; hands that there aren't. -/
namespace SS
open PySem L2 SX LamX
local macro_rules | `(tactic| walk_at "q") => `(tactic| ((try dsimp only); refine s_seq ?_))
/-! ### a statement that does not end -/
theorem e_lcR2 {s : L2.St} {H : Hp} {t : TT} {te : TE} {ta : TA} {g : TG} {ws : List Nat} {lo n : Nat} {Q : VK} (ht : EvA ta s H [.int (lo : Nat), .int ((lo + n : Nat) : Int)]) (hn : lo + n ≤ 1000000) (Pv : Addr → Nat → Hp → Prop) (h0 : ∀ D, H D = none → Pv D 0 (upd H D (.lst [])))
    (hs : ∀ D (i : Nat) H', i < n → H D = none → Pv D i H' → Turn D g t te ws s (Pv D (i + 1)) (.int ((lo + i : Nat) : Int)) H')
    (hd : ∀ D H', H D = none → Pv D n H' → Q (.ref D) H') : tLc (iRng2 ta) g t te ws s H Q :=
  ht _ ⟨(lo : Nat), ((lo + n : Nat) : Int), rfl, ⟨by omega, by omega, by omega, by omega⟩, fun D hD => by
    have e : (((lo + n : Nat) : Int) - ((lo : Nat) : Int)).toNat = n := by omega
    rw [e]
    exact lc_range (lo := ((lo : Nat) : Int)) (n := n) (Pv D) (h0 D hD) (fun i H' hi p => by
      have e0 : ((lo : Nat) : Int) + (i : Int) = ((lo + i : Nat) : Int) := by omega
      rw [e0]
      exact hs D i H' hi hD p) fun H' p => hd D H' hD p⟩
def tStop (t : TS) : TS := fun _ σ H => t { nx := fun _ _ => False, rt := fun _ _ => False } σ H
theorem pss_stop {X : Cx} {st : Stmt} {rest : List Stmt} {t : TS} (h : PS X st t) : PSs X (st :: rest) (tStop t) := by
  refine ⟨fun pins s σ H D I red => wpAny_execs_cons (thn (h.run pins s σ H _ I red) fun fl s1 q => ?_)⟩
  cases fl with
  | next => exact q.choose_spec.choose_spec.2.elim
  | brk => exact q.choose_spec.choose_spec.2.elim
  | cont => exact q.choose_spec.choose_spec.2.elim
  | ret u =>
    obtain ⟨_, _, _, _, _, z⟩ := q
    exact z.elim
theorem s_stop {t : TS} {D : Ends} {s : L2.St} {H : Hp} (h : t { nx := fun _ _ => False, rt := fun _ _ => False } s H) : tStop t D s H := h
/-! ### all but tables stay -/
theorem extN_tups {H H' : Hp} (e : ExtN H H') : Tups H H' := fun b xs g => e _ _ g fun _ z => by cases z
theorem same_extN {H H' : Hp} (s : Same H H') : ExtN H H' := fun b o e _ => s b o e
theorem sql_extN {K : PySem.W.Frag} {H H' : Hp} (e : ExtN H H') {a : Addr} {xs : List V} (h : SqL K H a xs) : SqL K H' a xs := by
  rcases h with (h | ⟨o, h⟩) | h
  · exact .inl (.inl (e _ _ h fun _ z => by cases z))
  · exact .inl (.inr ⟨o, e _ _ h fun q z => by cases z⟩)
  · exact .inr h
theorem DAny.mono {H H' : Hp} (t : Tups H H') {v : V} {xs : List V} (h : DAny H v xs) : DAny H' v xs := let ⟨q, e, a, b⟩ := h; ⟨q, e, t _ _ a, b⟩
theorem RowAny.extN {H H' : Hp} (e : ExtN H H') {v : V} {xss : List (List V)} (h : RowAny H v xss) : RowAny H' v xss := by
  obtain ⟨p, us, rfl, h1, h2, h3⟩ := h
  exact ⟨p, us, rfl, e _ _ h1 (fun _ z => by cases z), h2.mono fun _ _ => DAny.mono (extN_tups e), h3⟩
/-! ### values, programs, a rule that cannot be -/
def goodVals (vs : List Int) : Prop := vs.length ≤ 6 ∧ ∀ v ∈ vs, okVal v
def goodRows (rows : List (List (List V))) : Prop := (1 ≤ rows.length ∧ rows.length ≤ 3) ∧ ∀ x ∈ rows, goodRow x
def ProgBad (rows : List (List (List V))) (h n : Nat) : Prop := (¬ (1 ≤ rows.length ∧ rows.length ≤ 3) ∧ h = rows.length ∧ n = 0) ∨ ((1 ≤ rows.length ∧ rows.length ≤ 3) ∧ BadAt rows h n)
/-- values or programs -/
def VPBad (Z : Cs) (H : Hp) (lv lp : Addr) (k : Kd) : Prop := ∃ values : List Int, SqL Z.K H lv (values.map V.int) ∧ values.length ≤ 1000 ∧
  ((∃ n, ValBad values n ∧ k = .pile n) ∨ (goodVals values ∧ ∃ us rows, H lp = some (.lst us) ∧ All2 (RowAny H) us rows ∧ rows.length ≤ 1000 ∧ ∃ h n, ProgBad rows h n ∧ k = .deed h n))
def RBad (Z : Cs) (H : Hp) (lv lp lr : Addr) (k : Kd) : Prop := ∃ (values : List Int) (us : List V) (rows : List (List (List V))) (rx : RX), SqL Z.K H lv (values.map V.int) ∧ goodVals values ∧ H lp = some (.lst us) ∧ All2 (RowAny H) us rows ∧ goodRows rows ∧ RXAt H lr rx ∧ RxBad rows.length rx ∧ k = .rule
def AllBad (Z : Cs) (H : Hp) (lv lp lr : Addr) (k : Kd) : Prop := VPBad Z H lv lp k ∨ RBad Z H lv lp lr k
theorem VPBad.extN {Z : Cs} {H H' : Hp} (e : ExtN H H') {lv lp : Addr} {k : Kd} (h : VPBad Z H lv lp k) : VPBad Z H' lv lp k := by
  obtain ⟨values, a, b, c⟩ := h
  refine ⟨values, sql_extN e a, b, c.imp id ?_⟩
  rintro ⟨g, us, rows, h1, h2, h3, h4⟩
  exact ⟨g, us, rows, e _ _ h1 (fun _ z => by cases z), h2.mono fun _ _ => RowAny.extN e, h3, h4⟩
theorem RBad.extN {Z : Cs} {H H' : Hp} (e : ExtN H H') {lv lp lr : Addr} {k : Kd} (h : RBad Z H lv lp lr k) : RBad Z H' lv lp lr k := by
  obtain ⟨values, us, rows, rx, a, b, c, d, f, g, i, j⟩ := h
  exact ⟨values, us, rows, rx, sql_extN e a, b, e _ _ c (fun _ z => by cases z), d.mono fun _ _ => RowAny.extN e, f, g.mono (extN_tups e), i, j⟩
theorem AllBad.extN {Z : Cs} {H H' : Hp} (e : ExtN H H') {lv lp lr : Addr} {k : Kd} (h : AllBad Z H lv lp lr k) : AllBad Z H' lv lp lr k := h.imp (VPBad.extN e) (RBad.extN e)
theorem prog_bad {rows : List (List (List V))} {h n h' n' : Nat} (a : ProgBad rows h n) (b : ProgBad rows h' n') : h = h' ∧ n = n' := by
  rcases a with ⟨x, rfl, rfl⟩ | ⟨x, y⟩ <;> rcases b with ⟨x', rfl, rfl⟩ | ⟨x', y'⟩
  · exact ⟨rfl, rfl⟩
  · exact absurd x' x
  · exact absurd x x'
  · exact bad_at y y'
theorem prog_not {rows : List (List (List V))} {h n : Nat} (a : ProgBad rows h n) : ¬ goodRows rows := fun g => by
  rcases a with ⟨x, _⟩ | ⟨_, ⟨xss, h1, h2⟩, _⟩
  · exact x g.1
  · exact not_good h2 (g.2 _ (List.mem_of_getElem? h1))
def sp_M_initW (Z : Cs) (c : Nat → Addr) : Sp := fun vs H _ E => ∃ (p lv lp lr : Addr) (k : Kd), vs = [.ref p, .ref lv, .ref lp, .ref lr] ∧ AllBad Z H lv lp lr k ∧ Wish c k H E
/-- Machine.__init__: 0 self, 1 values, 2 programs, 3 rule, 4 program -/
def t_M_initW (Z : Cs) (c : Nat → Addr) (E : XK) : TS :=
  tSeq (tDrop (tCallS (sp_need_valuesX Z (c 0)) (fun _ => E) (tCons (tVar 1) tNil))) (tSeq (tDrop (tCallS (sp_need_programsX Z (c 1)) (fun _ => E) (tCons (tVar 2) tNil)))
    (tStop (tDrop (tCallS (sp_need_ruleX Z c) (fun _ => E) (tCons (tVar 3) (tCons (tCB (rLen1 Z.K) (tCons (tVar 2) tNil)) tNil))))))
theorem pure_M_initW {Z : Cs} {c : Nat → Addr} (vs : List V) (H : Hp) (Q : VK) (E : XK) (h : sp_M_initW Z c vs H Q E) : t_M_initW Z c E { nx := fun _ H' => Q .non H', rt := Q } (start ["self", "values", "programs", "rule", "program"] vs) H := by
  obtain ⟨p, lv, lp, lr, k, rfl, bad, wish⟩ := h
  have hv : ∃ values : List Int, SqL Z.K H lv (values.map V.int) ∧ values.length ≤ 1000 ∧ ((∃ n, ValBad values n ∧ k = .pile n) ∨ (goodVals values ∧ ∃ us rows, H lp = some (.lst us) ∧ All2 (RowAny H) us rows ∧ rows.length ≤ 1000 ∧
      ((∃ h n, ProgBad rows h n ∧ k = .deed h n) ∨ (goodRows rows ∧ k = .rule ∧ ∃ rx, RXAt H lr rx ∧ RxBad rows.length rx)))) := by
    rcases bad with ⟨values, a, b, c | ⟨g, us, rows, h1, h2, h3, h4⟩⟩ | ⟨values, us, rows, rx, a, b, c, d, f, g, i, j⟩
    · exact ⟨values, a, b, .inl c⟩
    · exact ⟨values, a, b, .inr ⟨g, us, rows, h1, h2, h3, .inl h4⟩⟩
    · exact ⟨values, a, by have := b.1; omega, .inr ⟨b, us, rows, c, d, by have := f.1; omega, .inr ⟨f, j, rx, g, i⟩⟩⟩
  obtain ⟨values, hv, hl, q⟩ := hv
  unfold t_M_initW
  walk_at "q"
  refine s_drop' (ea_cons (ev_var (v := .ref lv) rfl) ea_nil _ ⟨lv, values, rfl, hv, hl, fun n hn d hd => ?_, fun hg => ?_⟩)
  · rcases q with ⟨n', hn', rfl⟩ | ⟨g, _⟩
    · rw [val_bad hn hn']
      exact wish.pile d hd
    · exact absurd g (val_not hn)
  rcases q with ⟨n', hn', _⟩ | ⟨_, us, rows, h1, h2, h3, q⟩
  · exact absurd hg (val_not hn')
  walk_at "q"
  refine s_drop' (ea_cons (ev_var (v := .ref lp) rfl) ea_nil _ ⟨lp, us, rows, rfl, h1, h2, h3, fun nb d hd => ?_, fun b3 => ⟨fun i xss hx hgood => ⟨fun h4 d hd => ?_, fun h4 n hn d hd => ?_⟩, fun hgood => ?_⟩⟩)
  · rcases q with ⟨h, n, pb, rfl⟩ | ⟨g, _⟩
    · obtain ⟨e1, e2⟩ := prog_bad pb (.inl ⟨nb, rfl, rfl⟩)
      subst e1 e2
      exact wish.deed d hd
    · exact absurd g.1 nb
  · rcases q with ⟨h, n, pb, rfl⟩ | ⟨g, _⟩
    · obtain ⟨e1, e2⟩ := prog_bad pb (.inr ⟨b3, ⟨xss, hx, .inl ⟨h4, rfl⟩⟩, hgood⟩)
      subst e1 e2
      exact wish.deed d hd
    · have := (g.2 _ (List.mem_of_getElem? hx)).1
      omega
  · rcases q with ⟨h, n', pb, rfl⟩ | ⟨g, _⟩
    · obtain ⟨e1, e2⟩ := prog_bad pb (.inr ⟨b3, ⟨xss, hx, .inr ⟨h4, hn⟩⟩, hgood⟩)
      subst e1 e2
      exact wish.deed d hd
    · exact absurd (g.2 _ (List.mem_of_getElem? hx)).2 (first_not hn)
  rcases q with ⟨h, n, pb, _⟩ | ⟨_, rfl, rx, hx, bx⟩
  · exact absurd (show goodRows rows from ⟨b3, hgood⟩) (prog_not pb)
  have ul := h2.length
  dsimp only
  refine s_stop (s_drop' ?_)
  have len : Ev (tCB (rLen1 Z.K) (tCons (tVar 2) tNil)) (start ["self", "values", "programs", "rule", "program"] [.ref p, .ref lv, .ref lp, .ref lr]) H (.int (rows.length : Nat)) := ev_is (ev_lenL (ev_var rfl) (SqL.of h1)) (by rw [ul])
  refine t_cons_of (ev_var (v := .ref lr) rfl _ (t_cons_of (len _ ?_)))
  exact ⟨lr, rx, rows.length, rfl, hx, bx, wish⟩
/-- Machine(values, programs, rule) -/
theorem e_machW {Z : Cs} {c : Nat → Addr} {E : XK} {ar : TA} {s : L2.St} {H : Hp} {Q : VK} {lv lp lr : Addr} {k : Kd} (ha : EvA ar s H [.ref lv, .ref lp, .ref lr]) (bad : AllBad Z H lv lp lr k) (wish : Wish c k H E) : tMakeS Z.M (sp_M_initW Z c) [] (fun _ => E) ar s H Q :=
  ha _ fun x dx hx hdx ne => by
    have s1 : Same H (upd (upd H dx (.own x)) x (.ins Z.M dx [])) := fun b o e => by
      rw [upd_ne (ne_of_none e hx), upd_ne (ne_of_none e hdx)]
      exact e
    exact ⟨x, lv, lp, lr, k, rfl, bad.extN (same_extN s1), wish.later s1⟩
/-! ### played, whole, stale: all begin with the machine -/
def sp_takesW (Z : Cs) (c : Nat → Addr) (n : Nat) : Sp := fun vs H _ E => ∃ (lv lp lr : Addr) (r : List V) (k : Kd), vs = .ref lv :: .ref lp :: .ref lr :: r ∧ r.length = n ∧ AllBad Z H lv lp lr k ∧ Wish c k H E
def t_takesW (Z : Cs) (c : Nat → Addr) (E : XK) (i : Nat) : TS := tStop (tAsg (tMakeS Z.M (sp_M_initW Z c) [] (fun _ => E) (tCons (tVar 0) (tCons (tVar 1) (tCons (tVar 2) tNil)))) (gName i))
theorem pure_takesW {Z : Cs} {c : Nat → Addr} {n i : Nat} {N : List Str} (vs : List V) (H : Hp) (Q : VK) (E : XK) (D : Ends) (h : sp_takesW Z c n vs H Q E) : t_takesW Z c E i D (start N vs) H := by
  obtain ⟨lv, lp, lr, r, k, rfl, _, bad, wish⟩ := h
  exact s_stop (s_asg_of (e_machW (ea_cons (ev_var (v := .ref lv) rfl) (ea_cons (ev_var (v := .ref lp) rfl) (ea_cons (ev_var (v := .ref lr) rfl) ea_nil))) bad wish))
/-! ### safe_counts, least_marks -/
def sp_takes2W (Z : Cs) (c : Nat → Addr) : Sp := fun vs H _ E => ∃ (lv lp : Addr) (k : Kd), vs = [.ref lv, .ref lp] ∧ VPBad Z H lv lp k ∧ Wish c k H E
/-- least_marks: 0 values, 1 programs, 2 some -/
def t_least_marksW (Z : Cs) (c : Nat → Addr) (E : XK) : TS := tStop (tDrop (tMakeS Z.M (sp_M_initW Z c) [] (fun _ => E) (tCons (tVar 0) (tCons (tVar 1) (tCons (tTup (tCons (tC (.str "keeps")) tNil)) tNil)))))
theorem pure_least_marksW {Z : Cs} {c : Nat → Addr} (vs : List V) (H : Hp) (Q : VK) (E : XK) (h : sp_takes2W Z c vs H Q E) : t_least_marksW Z c E { nx := fun _ H' => Q .non H', rt := Q } (start ["values", "programs", "some"] vs) H := by
  obtain ⟨lv, lp, k, rfl, bad, wish⟩ := h
  refine s_stop (s_drop' ?_)
  refine t_cons_of (ev_var (v := .ref lv) rfl _ (t_cons_of (ev_var (v := .ref lp) rfl _ (t_cons_of (e_tup (ea_cons ev_c ea_nil) (by show 1 ≤ 1000; decide) fun p hp => ?_)))))
  have s0 : Same H (upd H p (.tup [.str "keeps"])) := Same.new hp
  have bad1 := bad.extN (same_extN s0)
  have wish1 := wish.later s0
  generalize upd H p (.tup [.str "keeps"]) = H1 at bad1 wish1
  intro x dx hx hdx ne
  have s1 : Same H1 (upd (upd H1 dx (.own x)) x (.ins Z.M dx [])) := fun b o e => by
    rw [upd_ne (ne_of_none e hx), upd_ne (ne_of_none e hdx)]
    exact e
  exact ⟨x, lv, lp, p, k, rfl, (AllBad.extN (lr := p) (same_extN s1) (.inl bad1)), wish1.later s1⟩
/-- safe_counts: 0 values, 1 programs, 2 many -/
def t_safe_countsW (Z : Cs) (c : Nat → Addr) (E : XK) : TS :=
  tRet (tLc (iRng2 (tCons (tC (.int 1)) (tCons (tOp rAddI (tC (.int 15)) (tC (.int 1))) tNil))) (gName 2) (tTest (tOp rIsN (tCallS (sp_takesW Z c 0) (fun _ => E) (tCons (tVar 0) (tCons (tVar 1) (tCons (tTup (tCons (tC (.str "counts")) (tCons (tVar 2) tNil))) tNil)))) (tC .non))) (tVar 2) [2])
theorem pure_safe_countsW {Z : Cs} {c : Nat → Addr} (vs : List V) (H : Hp) (Q : VK) (E : XK) (h : sp_takes2W Z c vs H Q E) : t_safe_countsW Z c E { nx := fun _ H' => Q .non H', rt := Q } (start ["values", "programs", "many"] vs) H := by
  obtain ⟨lv, lp, k, rfl, bad, wish⟩ := h
  unfold t_safe_countsW
  refine s_ret_of (e_lcR2 (lo := 1) (n := 15) (ea_cons ev_c (ea_cons (ev_add ev_c ev_c) ea_nil)) (by omega) (fun D i H' => i = 0 ∧ Same H H') (fun D hD => ⟨rfl, Same.new hD⟩) (fun D i H' hi hD p => ?_) (fun D H' hD p => ?_))
  · obtain ⟨_, c1⟩ := p
    refine ⟨rfl, ?_⟩
    refine t_test_of (t_op_of ?_)
    show tCons _ _ _ _ _
    refine t_cons_of (ev_var (v := .ref lv) rfl _ (t_cons_of (ev_var (v := .ref lp) rfl _ (t_cons_of (e_tup (ea_cons ev_c (ea_cons (ev_var (v := .int ((1 + i : Nat) : Int)) rfl) ea_nil)) (by show 2 ≤ 1000; decide) fun p hp => ?_)))))
    have s1 := Same.trans c1 (Same.new (o := .tup [.str "counts", .int ((1 + i : Nat) : Int)]) hp)
    exact ⟨lv, lp, p, [], k, rfl, rfl, .inl (bad.extN (same_extN s1)), wish.later s1⟩
  · cases p.1
/-! ### hands that there aren't -/
def NoH (n : Nat) (h : Int) : Prop := h < 0 ∨ (n : Int) ≤ h
def sp_handX (Z : Cs) (c : Nat → Addr) : Sp := fun vs H _ E => ∃ (A : MA) (m : M) (h : Int), vs = [.ref A.p, .int h] ∧ MachAt Z H A m ∧ NoH m.hands.length h ∧ Wish c .hand H E
/-- Machine.need_hand: 0 self, 1 hand -/
def t_M_need_handX (Z : Cs) (c : Nat → Addr) (E : XK) : TS :=
  tStop (tIfS (tNot (tTest (tChain rLeI rLtI (tC (.int 0)) (tVar 1) (tCB (rLen1 Z.K) (tCons (tFld Z.K (tVar 0) "hands") tNil))))) (tRzO (c 3) (fun c d _ H => E c d H)) (tNext))
theorem pure_M_need_handX {Z : Cs} (k : ZOk Z) {c : Nat → Addr} (vs : List V) (H : Hp) (Q : VK) (E : XK) (h : sp_handX Z c vs H Q E) : t_M_need_handX Z c E { nx := fun _ H' => Q .non H', rt := Q } (start ["self", "hand"] vs) H := by
  obtain ⟨A, m, h, rfl, T, no, wish⟩ := h
  refine s_stop (s_ifT (et_is (et_not (et_test (ev_leLt ev_c (ev_var (v := .int h) rfl) (ev_lenL (em_hands k T (ev_var rfl)) (SqL.of T.handsLL))))) ?_) wish.hand)
  rw [List.length_map, T.hs]
  rcases no with no | no
  · rw [decide_eq_false (show ¬ (0 : Int) ≤ h by omega)]
    rfl
  · rw [decide_eq_false (show ¬ h < (m.hands.length : Int) by omega), Bool.and_false]
    rfl
/-- Machine.turn: 0 self, 1 hand, 2 one, 3 deed -/
def t_M_turnX (Z : Cs) (c : Nat → Addr) (E : XK) : TS := tStop (tAsg (tMeth Z.M "need_hand" (sp_handX Z c) [] E (tVar 0) (tCons (tVar 1) tNil)) (gName 2))
theorem s_methX {Z : Cs} {c : Nat → Addr} {m' : Str} {ta : TE} {ar : TA} {s : L2.St} {H : Hp} {E : XK} {Q : VK} (hm : m' ∈ [("need_hand" : Str), "turn", "answers", "marked"]) {A : MA} {m : M} {h : Int} (ha : Ev ta s H (.ref A.p)) (he : EvA ar s H [.int h]) (T : MachAt Z H A m) (no : NoH m.hands.length h) (wish : Wish c .hand H E) :
    tMeth Z.M m' (sp_handX Z c) [] E ta ar s H Q := by
  refine s_meth ha T.obj (mf_no _ _ _ ?_) he ⟨A, m, h, rfl, T, no, wish⟩
  simp only [List.mem_cons, List.not_mem_nil, or_false] at hm
  rcases hm with rfl | rfl | rfl | rfl <;> simp
theorem pure_M_turnX {Z : Cs} {c : Nat → Addr} (vs : List V) (H : Hp) (Q : VK) (E : XK) (h : sp_handX Z c vs H Q E) : t_M_turnX Z c E { nx := fun _ H' => Q .non H', rt := Q } (start ["self", "hand", "one", "deed"] vs) H := by
  obtain ⟨A, m, h, rfl, T, no, wish⟩ := h
  exact s_stop (s_asg_of (s_methX (by simp) (ev_var rfl) (ea_cons (ev_var (v := .int h) rfl) ea_nil) T no wish))
/-- Machine.answers: 0 self, 1 hand -/
def t_M_answersX (Z : Cs) (c : Nat → Addr) (E : XK) : TS := tRet (tCB (rListOf Z.K) (tCons (tFld Z.K (tMeth Z.M "need_hand" (sp_handX Z c) [] E (tVar 0) (tCons (tVar 1) tNil)) "said") tNil))
theorem pure_M_answersX {Z : Cs} {c : Nat → Addr} (vs : List V) (H : Hp) (Q : VK) (E : XK) (h : sp_handX Z c vs H Q E) : t_M_answersX Z c E { nx := fun _ H' => Q .non H', rt := Q } (start ["self", "hand"] vs) H := by
  obtain ⟨A, m, h, rfl, T, no, wish⟩ := h
  exact s_methX (by simp) (ev_var rfl) (ea_cons (ev_var (v := .int h) rfl) ea_nil) T no wish
/-- Machine.marked: 0 self, 1 hand -/
def t_M_markedX (Z : Cs) (c : Nat → Addr) (E : XK) : TS := tRet (tFld Z.K (tMeth Z.M "need_hand" (sp_handX Z c) [] E (tVar 0) (tCons (tVar 1) tNil)) "mark")
theorem pure_M_markedX {Z : Cs} {c : Nat → Addr} (vs : List V) (H : Hp) (Q : VK) (E : XK) (h : sp_handX Z c vs H Q E) : t_M_markedX Z c E { nx := fun _ H' => Q .non H', rt := Q } (start ["self", "hand"] vs) H := by
  obtain ⟨A, m, h, rfl, T, no, wish⟩ := h
  exact s_methX (by simp) (ev_var rfl) (ea_cons (ev_var (v := .int h) rfl) ea_nil) T no wish
/-- a turn of a hand that there is, or isn't -/
def sp_turn2 (Z : Cs) (c : Nat → Addr) : Sp := fun vs H Q E => sp_M_turn Z vs H Q E ∨ sp_handX Z c vs H Q E
/-- a weaving: 0, then a hand that there isn't -/
def sp_playedH (Z : Cs) (c : Nat → Addr) : Sp := fun vs H _ E => ∃ (lv lp lr lw : Addr) (values : List Int) (ps : List (List Deed)) (r : Rule) (h : Int), vs = [.ref lv, .ref lp, .ref lr, .ref lw] ∧ SqL Z.K H lv (values.map V.int) ∧ ProgsAt Z.K H lp ps ∧ RuleAt H lr r ∧ okIn values ps r ∧
  SqL Z.K H lw [.int 0, .int h] ∧ NoH ps.length h ∧ Wish c .hand H E
/-- played: 0 values, 1 programs, 2 rule, 3 weaving, 4 machine, 5 hand -/
def t_playedH (Z : Cs) (c : Nat → Addr) (E : XK) : TS :=
  tSeq (tAsg (tMake Z.M (sp_M_init Z) [] E0 (tCons (tVar 0) (tCons (tVar 1) (tCons (tVar 2) tNil)))) (gName 4))
    (tRet (tLc (iList Z.K (tVar 3)) (gName 5) tYes (tMeth Z.M "turn" (sp_turn2 Z c) [] E (tVar 4) (tCons (tVar 5) tNil)) [5]))
theorem pure_playedH {Z : Cs} {c : Nat → Addr} (vs : List V) (H : Hp) (Q : VK) (E : XK) (h : sp_playedH Z c vs H Q E) : t_playedH Z c E { nx := fun _ H' => Q .non H', rt := Q } (start ["values", "programs", "rule", "weaving", "machine", "hand"] vs) H := by
  obtain ⟨lv, lp, lr, lw, values, ps, r, h, rfl, hv, hp, hr, ok, hw, no, wish⟩ := h
  unfold t_playedH
  walk_at "q"
  refine s_asg_of (s_machine (ea_cons (ev_var rfl) (ea_cons (ev_var rfl) (ea_cons (ev_var rfl) ea_nil))) hv hp hr ok fun A H1 c1 own T => ?_)
  show ({ nx := tRet _ _, rt := Q : Ends }).nx _ _
  dsimp only
  have f0 : Fine ps r (M.begin_ values ps r) := Fine.begin_ ok
  refine s_ret_of (e_lcL (ev_var rfl) (Same.seq c1 hw) (fun D i H' => Same H H' ∧ ((i = 0 ∧ MachAt Z H' A (M.begin_ values ps r)) ∨ (i = 1 ∧ MachAt Z H' A ((M.begin_ values ps r).step 0))) ∧ ∃ us, H' D = some (.lst us) ∧ us.length = i)
    (fun D hD => ⟨fun b o e => Same.new hD _ _ (c1 b o e), .inl ⟨rfl, T.new hD⟩, [], upd_same, rfl⟩) (fun D i H' _ _ p => Same.seq p.1 hw) (fun D i x H' hx hD p => ?_) (fun D H' hD p => ?_))
  · obtain ⟨s1, T1, us, hL, ul⟩ := p
    have hDn : H D = none := free_of c1 hD
    refine ⟨rfl, et_yes _ (iteT ?_)⟩
    rcases T1 with ⟨rfl, T1⟩ | ⟨rfl, T1⟩
    · cases hx
      have nD : ∀ a, A.owns a → a ≠ D := fun a ha => T.own_ne ha hD
      refine s_meth (ev_var rfl) T1.obj (mf_no _ _ _ (by simp)) (ea_cons (ev_var (v := .int 0) rfl) ea_nil) (.inl ⟨A, _, 0, rfl, T1, f0.wf, by rw [f0.hn]; have := ok.plen; omega, fun H2 v T2 C2 t _ => ?_⟩)
      have hL2 := C2.keep _ _ hL fun z => nD D z rfl
      refine ⟨us, hL2, (by rw [ul]; decide), same_newer (same_own (F := A.owns) s1 C2 own) hDn, .inr ⟨rfl, T2.fill hL2 nD⟩, us ++ [v], upd_same, ?_⟩
      rw [List.length_append, ul]
      rfl
    · cases hx
      refine s_meth (ev_var rfl) T1.obj (mf_no _ _ _ (by simp)) (ea_cons (ev_var (v := .int h) rfl) ea_nil) (.inr ⟨A, _, h, rfl, T1, ?_, wish.later s1⟩)
      have f1 : Fine ps r ((M.begin_ values ps r).run [0]) := f0.run fun x hx => by
        rw [List.mem_singleton.mp hx]
        have := ok.plen
        omega
      have e1 : ((M.begin_ values ps r).step 0).hands.length = ps.length := f1.hn
      rw [e1]
      exact no
  · have p2 := p.2.1
    rcases p2 with ⟨z, _⟩ | ⟨z, _⟩ <;> cases z
/-- whole: 0 values, 1 programs, 2 rule, 3 weaving, 4 machine, 5 hand, 6 answers -/
def sp_wholeH (Z : Cs) (c : Nat → Addr) : Sp := fun vs H _ E => ∃ (lv lp lr lw : Addr) (values : List Int) (ps : List (List Deed)) (r : Rule) (h : Int), vs = [.ref lv, .ref lp, .ref lr, .ref lw] ∧ SqL Z.K H lv (values.map V.int) ∧ ProgsAt Z.K H lp ps ∧ RuleAt H lr r ∧ okIn values ps r ∧
  SqL Z.K H lw [.int h] ∧ NoH ps.length h ∧ Wish c .hand H E
def t_wholeH (Z : Cs) (c : Nat → Addr) (E : XK) : TS :=
  tSeq (tAsg (tMake Z.M (sp_M_init Z) [] E0 (tCons (tVar 0) (tCons (tVar 1) (tCons (tVar 2) tNil)))) (gName 4))
    (tStop (tFor (iList Z.K (tVar 3)) (gName 5) ((tDrop (tMeth Z.M "turn" (sp_handX Z c) [] E (tVar 4) (tCons (tVar 5) tNil))))))
theorem pure_wholeH {Z : Cs} {c : Nat → Addr} (vs : List V) (H : Hp) (Q : VK) (E : XK) (h : sp_wholeH Z c vs H Q E) : t_wholeH Z c E { nx := fun _ H' => Q .non H', rt := Q } (start ["values", "programs", "rule", "weaving", "machine", "hand", "answers"] vs) H := by
  obtain ⟨lv, lp, lr, lw, values, ps, r, h, rfl, hv, hp, hr, ok, hw, no, wish⟩ := h
  unfold t_wholeH
  walk_at "q"
  refine s_asg_of (s_machine (ea_cons (ev_var rfl) (ea_cons (ev_var rfl) (ea_cons (ev_var rfl) ea_nil))) hv hp hr ok fun A H1 c1 own T => ?_)
  show ({ nx := tStop _ _, rt := Q : Ends }).nx _ _
  dsimp only
  have f0 : Fine ps r (M.begin_ values ps r) := Fine.begin_ ok
  refine s_stop (s_forL (ev_var rfl) (Same.seq c1 hw) (fun i s' H' => i = 0 ∧ H' = H1 ∧ ∃ w, s' = [some (.ref lv), some (.ref lp), some (.ref lr), some (.ref lw), some (.ref A.p), w, none]) ⟨rfl, rfl, none, rfl⟩ (fun i s' H' _ z => ?_) (fun i x s' H' hx z => ?_) (fun s' H' z => ?_))
  · obtain ⟨_, rfl, _⟩ := z
    exact Same.seq c1 hw
  · obtain ⟨rfl, rfl, w, rfl⟩ := z
    cases hx
    refine s_drop' (s_methX (by simp) (ev_var (v := .ref A.p) rfl) (ea_cons (ev_var (v := .int h) rfl) ea_nil) T ?_ (wish.later c1))
    rw [f0.hn]
    exact no
  · cases z.1
end SS

set_option Elab.async false
set_option linter.all false
set_option maxRecDepth 100000
set_option maxHeartbeats 4000000
/-! k02: `_law_told`, `_law_all`. -/
namespace SS
open PySem L2 SX
local macro_rules | `(tactic| walk_at "q") => `(tactic| ((try dsimp only); refine s_seq ?_))
def Kd.idx : Kd → Nat
  | .pile _ => 0
  | .deed _ _ => 1
  | .rule => 2
  | .hand => 3
def Kd.word (k : Kd) : Str := word4 k.idx
def Kd.args : Kd → List Int
  | .pile n => [(n : Nat)]
  | .deed h n => [(h : Nat), (n : Nat)]
  | _ => []
theorem Kd.lt : ∀ k : Kd, k.idx < 4
  | .pile _ => (by decide : 0 < 4)
  | .deed _ _ => (by decide : 1 < 4)
  | .rule => (by decide : 2 < 4)
  | .hand => (by decide : 3 < 4)
abbrev words4 : List V := [.str "pile", .str "deed", .str "rule", .str "hand"]
/-- what a kept lambda, called, does -/
structure RunsK (P : Program) (w : World) (K : PySem.W.Frag) (mg : Str → Option Value) (base : Heap) (n : Nat) (c : Nat → Addr) (kd : Kd) (f : Addr) (H : Hp) : Prop where
  fn : ∃ F, H f = some (LmO f F)
  run : ∀ H', Same H H' → Runs P w K mg base n f H' fun cls d H'' => KdAt c kd cls d H'' ∧ Same H' H''
theorem RunsK.later {P : Program} {w : World} {K : PySem.W.Frag} {mg : Str → Option Value} {base : Heap} {n : Nat} {c : Nat → Addr} {kd : Kd} {f : Addr} {H H' : Hp} (r : RunsK P w K mg base n c kd f H) (s : Same H H') : RunsK P w K mg base n c kd f H' := by
  obtain ⟨⟨F, e⟩, run⟩ := r
  exact ⟨⟨F, s _ _ e⟩, fun H2 s2 => run H2 (Same.trans s s2)⟩
def sp_L_toldZ (P : Program) (w : World) (mg : Str → Option Value) (base : Heap) (n : Nat) (Z : Cs) (c : Nat → Addr) : Sp := fun vs H Q _ => ∃ (f : Addr) (kd : Kd), vs = [.ref f] ∧ RunsK P w Z.K mg base n c kd f H ∧
  ∀ l l2 H', Same H H' → H' l = some (.lst [.str kd.word, .ref l2]) → H' l2 = some (.lst (kd.args.map V.int)) → Q (.ref l) H'
def tb_L_toldZ (P : Program) (w : World) (mg : Str → Option Value) (base : Heap) (n : Nat) (Z : Cs) (W : WX) : TS := tDrop (tCallZ P w Z.K mg base n 0 (WE W))
def ts_L_toldZ (Z : Cs) (c : Nat → Addr) : Addr → Value → Option Addr → TS := fun a cls d =>
  tFor (iList Z.K (tLst (tCons (tC (.str "pile")) (tCons (tC (.str "deed")) (tCons (tC (.str "rule")) (tCons (tC (.str "hand")) tNil)))))) (gName 2)
    (tIfS (tB (tCallPs a cls d (sp_L_is c) (fun _ => E0) (tCons (tVar 1) (tCons (tVar 2) tNil)))) (tRet (tLst (tCons (tVar 2) (tCons (tIf (tTest (tOp rEq (tVar 2) (tC (.str "pile")))) (tLst (tCons (tXf a cls d (c 0) "at" (tVar 1)) tNil))
      (tIf (tTest (tOp rEq (tVar 2) (tC (.str "deed")))) (tLst (tCons (tXf a cls d (c 1) "hand" (tVar 1)) (tCons (tXf a cls d (c 1) "number" (tVar 1)) tNil))) (tLst tNil))) tNil)))) tNext)
/-- _law_told: 0 _law_work, 1 _law_e, 2 _law_word -/
def t_L_toldZ (P : Program) (w : World) (mg : Str → Option Value) (base : Heap) (n : Nat) (Z : Cs) (c : Nat → Addr) (CE : Addr) : TS :=
  tSeq (fun D σ H => tb_L_toldZ P w mg base n Z (wAs Z.K (.ref CE) 1 (ts_L_toldZ Z c) (fun _ _ _ _ => False) D) D σ H) (tRet (tC .non))
theorem kd_pin {Z : Cs} {c : Nat → Addr} (ks : Ks4 Z.K c) {kd : Kd} {cls : Value} {d : Option Addr} {H : Hp} (h : KdAt c kd cls d H) : cls = .ref (c kd.idx) ∧ (d = none ∨ ∃ dd fs, d = some dd ∧ H dd = some (.xd fs)) := by
  cases kd with
  | pile n => obtain ⟨e, dd, a, b⟩ := h; exact ⟨e, .inr ⟨dd, _, a, b⟩⟩
  | deed h n => obtain ⟨e, dd, a, b⟩ := h; exact ⟨e, .inr ⟨dd, _, a, b⟩⟩
  | rule => exact ⟨h.1, .inl h.2⟩
  | hand => exact ⟨h.1, .inl h.2⟩
theorem KdAt.later {c : Nat → Addr} {kd : Kd} {cls : Value} {d : Option Addr} {H H' : Hp} (h : KdAt c kd cls d H) (s : Same H H') : KdAt c kd cls d H' := by
  cases kd with
  | pile n => obtain ⟨e, dd, a, b⟩ := h; exact ⟨e, dd, a, s _ _ b⟩
  | deed h n => obtain ⟨e, dd, a, b⟩ := h; exact ⟨e, dd, a, s _ _ b⟩
  | rule => exact h
  | hand => exact h
theorem word4_get : ∀ {i : Nat} {x : V}, words4[i]? = some x → x = .str (word4 i)
  | 0, _, e => by cases e; rfl
  | 1, _, e => by cases e; rfl
  | 2, _, e => by cases e; rfl
  | 3, _, e => by cases e; rfl
  | i + 4, _, e => by simp at e
theorem word4_inj {i j : Nat} (hi : i < 4) (hj : j < 4) (e : word4 i = word4 j) : i = j := by
  have all : ∀ i, i < 4 → ∀ j, j < 4 → word4 i = word4 j → i = j := by decide +kernel
  exact all i hi j hj e
theorem pure_L_toldZ {P : Program} {w : World} {mg : Str → Option Value} {base : Heap} {n : Nat} {Z : Cs} {c : Nat → Addr} {CE : Addr} (ks : Ks4 Z.K c) (ex : ∀ i, i < 4 → PySem.W.exmOne Z.K (.ref (c i)) (.ref CE) = some true) (vs : List V) (H : Hp) (Q : VK) (E : XK)
    (h : sp_L_toldZ P w mg base n Z c vs H Q E) : t_L_toldZ P w mg base n Z c CE { nx := fun _ H' => Q .non H', rt := Q } (start ["_law_work", "_law_e", "_law_word"] vs) H := by
  obtain ⟨f, kd, rfl, rk, q⟩ := h
  obtain ⟨F, ef⟩ := rk.fn
  unfold t_L_toldZ tb_L_toldZ
  walk_at "q"
  refine s_drop' ⟨f, F, rfl, ef, (rk.run H (Same.refl H)).imp fun cls d H1 ⟨at_, s1⟩ => ?_⟩
  obtain ⟨ec, dd⟩ := kd_pin ks at_
  refine ⟨true, by rw [ec]; exact ex _ kd.lt, fun _ a ha => ?_, fun z => by cases z⟩
  have ilt := kd.lt
  unfold ts_L_toldZ
  refine s_forLN (xs := words4) (fun p i s' H' => i ≤ kd.idx ∧ Same H1 H' ∧ H' p = some (.lst words4) ∧ ∃ u, s' = [some (.ref f), some (.ref a), u]) (fun R hR => e_lst (ea_cons ev_c (ea_cons ev_c (ea_cons ev_c (ea_cons ev_c ea_nil)))) (by show 4 ≤ 1000; decide) fun p hp => hR p _ hp (Same.new hp) upd_same)
    (fun p H' _ s2 g => ⟨Nat.zero_le _, s2, g, none, rfl⟩) (fun p i s' H' _ _ z => ?_) (fun p i x s' H' hx _ z => ?_) (fun p s' H' _ z => ?_)
  · exact SqL.of z.2.2.1
  · obtain ⟨le, s2, gp, u, rfl⟩ := z
    obtain rfl := word4_get hx
    have ix : i < 4 := by omega
    dsimp only [gName]
    show tIfS _ _ _ _ [some (V.ref f), some (V.ref a), some (V.str (word4 i))] H'
    have at2 := at_.later s2
    obtain ⟨_, dd2⟩ := kd_pin ks at2
    refine s_if_of (t_B_of fun oe e1 e2 e3 => ea_cons (ev_var (v := .ref a) rfl) (ea_cons (ev_var (v := .str (word4 i)) rfl) ea_nil) _ ⟨kd.idx, word4 i, ilt, rfl, ⟨by rw [e1, ec], e3, ?_⟩, fun H3 s3 => ⟨decide (word4 i = word4 kd.idx), rfl, ?_⟩⟩)
    · rw [e2]
      exact dd2
    by_cases ei : i = kd.idx
    · subst ei
      rw [decide_eq_true rfl]
      refine iteT ?_
      have at3 := at2.later s3
      have sAll : Same H H3 := Same.trans s1 (Same.trans s2 s3)
      refine s_ret_of (t_lst_of (t_cons_of (ev_var (v := .str (word4 kd.idx)) rfl _ (t_cons_of ?_))))
      have fin : ∀ (l2 : Addr), H3 l2 = none → tNil [some (V.ref f), some (V.ref a), some (V.str (word4 kd.idx))] (upd H3 l2 (.lst (kd.args.map V.int))) fun xs H2 => (V.str (word4 kd.idx) :: V.ref l2 :: xs).length ≤ sizeLine ∧ ∀ p, H2 p = none → Q (.ref p) (upd H2 p (.lst (V.str (word4 kd.idx) :: V.ref l2 :: xs))) := fun l2 n2 =>
        ⟨by show 2 ≤ sizeLine; decide, fun p hp => q p l2 _ (Same.trans sAll (Same.trans (Same.new n2) (Same.new hp))) upd_same (Same.new hp _ _ upd_same)⟩
      cases kd with
      | pile m =>
        obtain ⟨ec, d1, ed, g1⟩ := at3
        refine t_ifE_ (t_test_of (t_op_of (ev_var (v := .str (word4 0)) rfl _ (ev_c _ ⟨by rfl, true, by rfl, iteT (t_lst_of (t_cons_of (ev_var (v := .ref a) rfl _ ⟨rfl, ec, d1, _, .int (m : Nat), ed, g1, by kernel_rfl, ⟨by show 1 ≤ sizeLine; decide, fun l2 n2 => fin l2 n2⟩⟩)))⟩))))
      | deed h m =>
        obtain ⟨ec, d1, ed, g1⟩ := at3
        refine t_ifE_ (t_test_of (t_op_of (ev_var (v := .str (word4 1)) rfl _ (ev_c _ ⟨by rfl, false, congrArg V.bl (by decide +kernel), iteF ?_⟩))))
        refine t_ifE_ (t_test_of (t_op_of (ev_var (v := .str (word4 1)) rfl _ (ev_c _ ⟨by rfl, true, by rfl, iteT (t_lst_of (t_cons_of (ev_var (v := .ref a) rfl _ ⟨rfl, ec, d1, _, .int (h : Nat), ed, g1, by kernel_rfl, t_cons_of (ev_var (v := .ref a) rfl _ ⟨rfl, ec, d1, _, .int (m : Nat), ed, g1, by kernel_rfl, ⟨by show 2 ≤ sizeLine; decide, fun l2 n2 => fin l2 n2⟩⟩)⟩)))⟩))))
      | rule =>
        refine t_ifE_ (t_test_of (t_op_of (ev_var (v := .str (word4 2)) rfl _ (ev_c _ ⟨by rfl, false, congrArg V.bl (by decide +kernel), iteF ?_⟩))))
        refine t_ifE_ (t_test_of (t_op_of (ev_var (v := .str (word4 2)) rfl _ (ev_c _ ⟨by rfl, false, congrArg V.bl (by decide +kernel), iteF ⟨by show 0 ≤ sizeLine; decide, fun l2 n2 => fin l2 n2⟩⟩))))
      | hand =>
        refine t_ifE_ (t_test_of (t_op_of (ev_var (v := .str (word4 3)) rfl _ (ev_c _ ⟨by rfl, false, congrArg V.bl (by decide +kernel), iteF ?_⟩))))
        refine t_ifE_ (t_test_of (t_op_of (ev_var (v := .str (word4 3)) rfl _ (ev_c _ ⟨by rfl, false, congrArg V.bl (by decide +kernel), iteF ⟨by show 0 ≤ sizeLine; decide, fun l2 n2 => fin l2 n2⟩⟩))))
    · rw [decide_eq_false fun z => ei (word4_inj ix ilt z)]
      exact iteF ⟨by omega, Same.trans s2 s3, s3 _ _ gp, _, rfl⟩
  · have h4 : (4 : Nat) ≤ kd.idx := z.1
    omega
/-! ### `_law_all` -/
theorem t_notZ {t : TT} {s : L2.St} {H : Hp} {Q : Bool → Hp → Prop} (h : t s H fun c H1 => Q (!c) H1) : tNot t s H Q := h
def sp_L_all (P : Program) (w : World) (mg : Str → Option Value) (base : Heap) (n : Nat) (Z : Cs) (c : Nat → Addr) : Sp := fun vs H Q _ => ∃ (lw ld l2 : Addr) (fs : List Addr) (kd : Kd), vs = [.ref lw, .ref ld] ∧ H lw = some (.lst (fs.map V.ref)) ∧ fs.length ≤ 1000 ∧ (∀ f ∈ fs, RunsK P w Z.K mg base n c kd f H) ∧
  H ld = some (.lst [.str kd.word, .ref l2]) ∧ H l2 = some (.lst (kd.args.map V.int)) ∧ ∀ H', Same H H' → Q (.bl true) H'
/-- _law_all: 0 _law_works_here, 1 _law_due, 2 _law_work -/
def t_L_all (P : Program) (w : World) (mg : Str → Option Value) (base : Heap) (n : Nat) (Z : Cs) (c : Nat → Addr) (m : Nat) : TS :=
  tRet (tOp (rEqD Z.K) (tLc (iList Z.K (tVar 0)) (gName 2) (tNot (tB (tCall (sp_L_like Z m) [] E0 (tCons (tCall (sp_L_toldZ P w mg base n Z c) [] E0 (tCons (tVar 2) tNil)) (tCons (tVar 1) tNil))))) (tVar 2) [2]) (tLst tNil))
def kdD (k : Kd) : PyData := .list [.str k.word, .list (k.args.map PyData.int)]
theorem kdD_dp {K : PySem.W.Frag} {H : Hp} {l l2 : Addr} {k : Kd} (h1 : H l = some (.lst [.str k.word, .ref l2])) (h2 : H l2 = some (.lst (k.args.map V.int))) : Dp K H (.ref l) (kdD k) := .lst (SqL.of h1) (.cons (.str _) (.cons (.lst (SqL.of h2) (dp_ints _)) .nil))
theorem kd_words (k : Kd) : PyData.strOk k.word = true := by
  have all : ∀ i, i < 4 → PyData.strOk (word4 i) = true := by decide +kernel
  exact all _ k.lt
theorem kdD_lay (k : Kd) : (kdD k).canLay0 = true := by
  simp [kdD, PyData.canLay0, PyData.canLayAll0, canLay_ints, kd_words]
theorem kdD_depth (k : Kd) : (kdD k).depth ≤ 2 := by
  simp [kdD, PyData.depth, PyData.depthAll, depth_ints]
theorem args_few (k : Kd) : k.args.length ≤ 2 := by cases k <;> (simp [Kd.args])
theorem kdD_small (k : Kd) : Small (kdD k) := by
  refine .list (by show 2 ≤ 1000000; decide) fun d hd => ?_
  rcases List.mem_cons.mp hd with rfl | hd
  · exact .str _
  · obtain rfl := List.mem_singleton.mp hd
    refine .list (by rw [List.length_map]; have := args_few k; omega) fun d hd => ?_
    obtain ⟨i, _, rfl⟩ := List.mem_map.mp hd
    exact .int i
theorem pure_L_all {P : Program} {w : World} {mg : Str → Option Value} {base : Heap} {n m : Nat} {Z : Cs} {c : Nat → Addr} (hm : 2 < m ∧ m ≤ 60) (vs : List V) (H : Hp) (Q : VK) (E : XK) (h : sp_L_all P w mg base n Z c vs H Q E) :
    t_L_all P w mg base n Z c m { nx := fun _ H' => Q .non H', rt := Q } (start ["_law_works_here", "_law_due", "_law_work"] vs) H := by
  obtain ⟨lw, ld, l2, fs, kd, rfl, hw, hz, rk, h1, h2, q⟩ := h
  unfold t_L_all
  refine s_ret_of (t_op_of (e_lcL (ev_var rfl) (SqL.of hw) (fun D i H' => Same H H' ∧ H' D = some (.lst [])) (fun D hD => ⟨Same.new hD, upd_same⟩) (fun D i H' _ _ p => SqL.of (p.1 _ _ hw)) (fun D i x H' hx hD p => ?_) (fun D H' hD p => ?_)))
  · obtain ⟨s1, gD⟩ := p
    obtain ⟨f, hf, rfl⟩ : ∃ f, fs[i]? = some f ∧ x = V.ref f := by
      rw [List.getElem?_map] at hx
      cases e : fs[i]? with
      | none => rw [e] at hx; cases hx
      | some f => rw [e] at hx; cases hx; exact ⟨f, rfl, rfl⟩
    refine ⟨rfl, ?_⟩
    refine t_notZ (t_B_of (t_call_of (t_cons_of (t_call_of (ea_cons (ev_var (v := .ref f) rfl) ea_nil _ ⟨f, kd, rfl, (rk f (List.mem_of_getElem? hf)).later s1, fun l k2 H2 s2 g1 g2 => ?_⟩)))))
    refine ea_cons (ev_var (v := .ref ld) rfl) ea_nil _ ⟨.ref l, .ref ld, kdD kd, rfl, kdD_dp g1 g2, kdD_dp (s2 _ _ (s1 _ _ h1)) (s2 _ _ (s1 _ _ h2)), kdD_lay kd, by have := kdD_depth kd; omega, hm.2, kdD_small kd, ⟨true, rfl, ?_⟩⟩
    exact iteF ⟨Same.trans s1 s2, s2 _ _ gD⟩
  · obtain ⟨s1, gD⟩ := p
    refine e_lst ea_nil (by show 0 ≤ 1000; decide) fun p2 hp2 => ?_
    refine ⟨.list [], .list [], .lst (SqL.of (Same.new hp2 _ _ gD)) .nil, .lst (SqL.of upd_same) .nil, by decide +kernel, by decide +kernel, ?_⟩
    rw [show PyData.eqv (.list []) (.list []) = true by decide +kernel]
    exact q _ (Same.trans s1 (Same.new hp2))
end SS

set_option Elab.async false
set_option linter.all false
set_option maxRecDepth 100000
set_option maxHeartbeats 4000000
/-! k02: kept lambdas, what they do. -/
namespace SS
open PySem PySem.Spec PyProof.Rows L2 SX LamX NdefX
/-- a kept lambda whose cells were known: what its body does, where data stands as it did -/
theorem runsK_of {P : Program} {w : World} {K : PySem.W.Frag} {mg : Str → Option Value} {base : Heap} {k : Nat} {c : Nat → Addr} {kd : Kd} {f : Addr} {H0 H1 : Hp} {F : LF} {C : Cells} {N ps fr : List Str} {vs : List V} {ws : List (Option V)}
    (t : Thunk H1 f F C ps fr vs ws) (S : NScope N ps fr F.scope) (ex : ExtN H0 H1) (new : ∀ c o, C c = some o → H0 c = none)
    (body : ∀ (G : Hp) (A : Around) (outer : List Env) (s : Shared) (E : XK), ExtN H0 G → Wish c kd G E → Room k (A.deeper (envF F.nf f s.heap.objs.size)) → ∃ tb, PE (ncx (L2N.CX P w) P w K mg base N F.nf f A outer s G E) F.body tb ∧ tb (startF N vs ws) G fun _ _ => False) :
    RunsK P w K mg base (k + 1) c kd f H1 := by
  refine ⟨⟨F, t.fo⟩, fun H' s' => runs_of (t.ext s') S fun A outer s room => body (cut C H') A outer s _ (fun b o e n => ?_) (fun cls d G' at_ sg out => ⟨?_, fun b o e => ?_⟩) room⟩
  · have z := s' _ _ (ex b o e n)
    refine (cut_out ?_).trans z
    cases q : C b with
    | none => rfl
    | some o2 =>
      rw [new b o2 q] at e
      cases e
  · have off : ∀ dd u, G' dd = some u → put C G' dd = some u := fun dd u e => by
      refine (put_out ?_).trans e
      cases q : C dd with
      | none => rfl
      | some o2 =>
        rw [out dd o2 q] at e
        cases e
    exact at_.later off
  · cases q : C b with
    | none => exact (put_out q).trans (sg _ _ ((cut_out q).trans e))
    | some o2 =>
      have z := (t.ext s').at_ b o2 q
      rw [z] at e
      cases e
      exact put_at q
/-- a lambda of the frame whose cells are told -/
theorem thunk_of {cells : List (Str × Addr)} {sc : Scope} {N : List Str} {σ : L2.St} {H : Hp} {C : Cells} {f : Addr} {F : LF} {ps fr : List Str} {vs : List V} {ws : List (Option V)} (CZ : CellsZ cells sc N σ H C) (hf : H f = some (LmO f F)) (hc : H F.c = some (CodeO F.c F.qual)) (hcl : F.cl = cloFrom cells F.scope.names [])
    (free : ∀ y ∈ F.scope.names, y.2 = .free → sc.names.lookup y.1 = some .cell) (len : ws.length = fr.length) (at_ : ∀ (i : Nat) (y : Str), fr[i]? = some y → (y, NameKind.free) ∈ F.scope.names ∧ ∃ j : Nat, N[j]? = some y ∧ ∀ v, ws[i]? = some (some v) → σ[j]? = some (some v))
    (nps : vs.length = ps.length) (bnd : ∃ (T : List (Addr × Obj)) (us : List Value), (∀ p ∈ T, H p.1 = some (.frz p.2 (.own 0))) ∧ Vals vs us ∧ ∀ (s : Shared) (doc pm ctv : Value), (∀ p ∈ T, s.heap.get? p.1 = some p.2) → BindsTo s (F.fd doc pm ctv) ⟨[], []⟩ (ps.zip us)) :
    Thunk (put C H) f F C ps fr vs ws := by
  have up : ∀ b u, H b = some u → put C H b = some u := fun b u e => by
    refine (put_out ?_).trans e
    cases q : C b with
    | none => rfl
    | some o2 =>
      rw [CZ.new b o2 q] at e
      cases e
  have hfree : ∀ y ∈ F.scope.names, y.2 = .free → ∃ c, cells.lookup y.1 = some c := fun y hy e => CZ.has _ (free y hy e)
  have cm : ∀ {y c}, F.cl.lookup y = some c → cells.lookup y = some c := fun {y c} e => clo_cm hfree (by rw [← hcl]; exact e)
  obtain ⟨T, us, a, b, d⟩ := bnd
  refine ⟨up _ _ hf, up _ _ hc, fun x y c e1 e2 => CZ.inj x y c (cm e1) (cm e2), fun y c e => CZ.all y c (cm e), len, fun i y e => ?_, fun c o e => put_at e, nps, T, us, fun p hp => up _ _ (a p hp), b, d⟩
  obtain ⟨m, j, ej, ew⟩ := at_ i y e
  obtain ⟨c, hc⟩ := CZ.has y (free _ m rfl)
  obtain ⟨o, v0, e1, e2⟩ := CZ.all y c hc
  refine ⟨c, o, by rw [hcl]; exact clo_has hfree m hc, e1, fun v ev => ?_⟩
  obtain ⟨c', o', u, h1, h2, h3, h4⟩ := CZ.val j y v ej (ew v ev) (free _ m rfl)
  rw [hc] at h1
  cases h1
  rw [e1] at h2
  cases h2
  exact ⟨u, h4, h3⟩
/-! ### `_law_works` -/
/-- words of a lambda -/
structure LW where
  params : Arguments
  body : Expr
  scope : Scope
/-- a kept lambda that captured three -/
def Kept3 (H0 H1 : Hp) (L : LW) (fr : List Str) (ws : List V) (f : Addr) : Prop := ∃ (F : LF) (C : Cells), Thunk H1 f F C [] fr [] (ws.map some) ∧ F.params = L.params ∧ F.body = L.body ∧ F.scope = L.scope ∧ ∀ c o, C c = some o → H0 c = none
theorem Kept3.extN {H0 H1 H2 : Hp} {L : LW} {fr : List Str} {ws : List V} {f : Addr} (k : Kept3 H0 H1 L fr ws f) (e : ExtN H1 H2) : Kept3 H0 H2 L fr ws f := by
  obtain ⟨F, C, t, a, b, c, d⟩ := k
  exact ⟨F, C, t.extN e, a, b, c, d⟩
def sp_L_works (T : List (Addr × Str)) (L : Nat → LW) (fr : List Str) : Sp := fun vs H Q _ => ∃ v1 v2 v3, vs = [v1, v2, v3] ∧ Tabs T H ∧ ∀ (l f1 f2 f3 f4 : Addr) H1, ExtN H H1 → Tabs T H1 → H1 l = some (.lst [.ref f1, .ref f2, .ref f3, .ref f4]) →
  Kept3 H H1 (L 0) fr vs f1 → Kept3 H H1 (L 1) fr vs f2 → Kept3 H H1 (L 2) fr vs f3 → Kept3 H H1 (L 3) fr vs f4 → Q (.ref l) H1
/-- _law_works: 0 _law_values_here, 1 _law_programs_here, 2 _law_rule_here, 3 _law_works_here -/
def t_L_works (Z : Cs) (T : List (Addr × Str)) (mk : Nat → Addr → LF) : TR :=
  trC (tAsg (tLst (tCons (tLam0 T (mk 0)) tNil)) (gName 3)) (trC (tDrop (tBM Z.K "list" rAppend (tVar 3) (tCons (tLam0 T (mk 1)) tNil))) (trC (tDrop (tBM Z.K "list" rAppend (tVar 3) (tCons (tLam0 T (mk 2)) tNil)))
    (trC (tDrop (tBM Z.K "list" rAppend (tVar 3) (tCons (tLam0 T (mk 3)) tNil))) (trR (tVar 3)))))
def MadeAt (mk : Nat → Addr → LF) (H : Hp) (i : Nat) (f : Addr) : Prop := ∃ c', H f = some (LmO f (mk i c')) ∧ H c' = some (CodeO c' (mk i c').qual)
theorem MadeAt.extN {mk : Nat → Addr → LF} {H H' : Hp} {i : Nat} {f : Addr} (h : MadeAt mk H i f) (e : ExtN H H') : MadeAt mk H' i f := let ⟨c', a, b⟩ := h; ⟨c', e _ _ a lmO_ne, e _ _ b codeO_ne⟩
structure WkSt (T : List (Addr × Str)) (mk : Nat → Addr → LF) (H0 H : Hp) (l : Addr) (fs : List Addr) : Prop where
  ex : ExtN H0 H
  tb : Tabs T H
  at_ : H l = some (.lst (fs.map V.ref))
  new : H0 l = none
  fs : ∀ (i : Nat) (f : Addr), fs[i]? = some f → MadeAt mk H i f
theorem extN_new {H0 H : Hp} {l : Addr} {o : HO} (e : ExtN H0 H) (n : H0 l = none) : ExtN H0 (upd H l o) := fun b u g nt => by
  rw [upd_ne (ne_of_none g n)]
  exact e b u g nt
theorem tabs_put {T : List (Addr × Str)} {H : Hp} {l : Addr} {o u : HO} (t : Tabs T H) (g : H l = some u) (n1 : ∀ ps, u ≠ .tbl ps) (n2 : ∀ c q, u ≠ CodeO c q) : Tabs T (upd H l o) := fun p hp => by
  obtain ⟨ps, h1, h2, h3⟩ := t p hp
  have np : p.1 ≠ l := fun z => by
    rw [z, g] at h1
    exact n1 ps (Option.some.inj h1)
  refine ⟨ps, by rw [upd_ne np]; exact h1, h2, fun pos cv e => ?_⟩
  obtain ⟨c0, e1, e2⟩ := h3 pos cv e
  have nc : c0 ≠ l := fun z => by
    rw [z, g] at e2
    exact n2 _ _ (Option.some.inj e2)
  exact ⟨c0, e1, by rw [upd_ne nc]; exact e2⟩
theorem made_put {mk : Nat → Addr → LF} {H : Hp} {l : Addr} {xs : List V} {o : HO} {i : Nat} {f : Addr} (h : MadeAt mk H i f) (g : H l = some (.lst xs)) : MadeAt mk (upd H l o) i f := by
  obtain ⟨c', a, b⟩ := h
  have n1 : f ≠ l := fun z => by
    rw [z, g] at a
    have a := Option.some.inj a
    unfold LmO at a
    cases a
  have n2 : c' ≠ l := fun z => by
    rw [z, g] at b
    have b := Option.some.inj b
    unfold CodeO at b
    cases b
  exact ⟨c', by rw [upd_ne n1]; exact a, by rw [upd_ne n2]; exact b⟩
theorem wk_step {Z : Cs} {T : List (Addr × Str)} {mk : Nat → Addr → LF} {H0 H : Hp} {l : Addr} {fs : List Addr} {s : L2.St} {D : Ends} {n j : Nat} (h : WkSt T mk H0 H l fs) (hn : n = fs.length) (few : n ≤ 10) (e : s[j]? = some (some (.ref l))) (q : ∀ H2 f, WkSt T mk H0 H2 l (fs ++ [f]) → D.nx s H2) :
    tDrop (tBM Z.K "list" rAppend (tVar j) (tCons (tLam0 T (mk n)) tNil)) D s H := by
  subst hn
  refine s_drop' (t_bm_of (ev_var e _ ⟨.inl ⟨rfl, _, SqL.of h.at_⟩, t_cons_of ⟨h.tb, fun f c' H1 ex _ tb nf a b => ?_⟩⟩))
  have g1 := ex _ _ h.at_ fun _ z => by cases z
  refine ⟨l, fs.map V.ref, .ref f, rfl, rfl, g1, by rw [List.length_map, sizeLine_eq]; omega, q _ f ⟨extN_new (fun b o e n => ex b o (h.ex b o e n) n) h.new, tabs_put tb g1 (fun _ z => by cases z) (fun _ _ z => by unfold CodeO at z; cases z), ?_, h.new, fun i f' hf => ?_⟩⟩
  · rw [upd_same, List.map_append]
    rfl
  · refine made_put ?_ g1
    by_cases hi : i < fs.length
    · rw [List.getElem?_append_left hi] at hf
      exact (h.fs i f' hf).extN ex
    · rw [List.getElem?_append_right (by omega)] at hf
      have e0 : i - fs.length = 0 := by
        by_cases z : i - fs.length = 0
        · exact z
        · rw [List.getElem?_eq_none (by show 1 ≤ _; omega)] at hf
          cases hf
      rw [e0] at hf
      cases hf
      have ei : i = fs.length := by omega
      subst ei
      exact ⟨c', a, b⟩
theorem pure_L_works {Z : Cs} {T : List (Addr × Str)} {L : Nat → LW} {fr N : List Str} {cells : List (Str × Addr)} {sc : Scope} {qual : Str} {mk : Nat → Addr → LF} (emk : ∀ j c', mk j c' = ⟨qual, (L j).params, (L j).body, (L j).scope, cloFrom cells (L j).scope.names [], c', .none⟩)
    (free : ∀ j, j < 4 → ∀ y ∈ (L j).scope.names, y.2 = .free → sc.names.lookup y.1 = some .cell) (at_ : ∀ j, j < 4 → ∀ y ∈ fr, (y, NameKind.free) ∈ (L j).scope.names) (hN : fr = N.take 3) (hl : N.length = 4)
    (bnd : ∀ j, j < 4 → ∀ (c' : Addr) (doc pm ctv : Value), bindArgs ((mk j c').fd doc pm ctv) ⟨[], []⟩ = pure []) (vs : List V) (H : Hp) (Q : VK) (E : XK) (h : sp_L_works T L fr vs H Q E) :
    t_L_works Z T mk (L2.start N vs) H fun σ1 v H1 => ∀ C : Cells, CellsZ cells sc N σ1 H1 C → (∀ c o, C c = some o → H c = none) → Q v (put C H1) := by
  obtain ⟨v1, v2, v3, rfl, tb, q⟩ := h
  have hs : L2.start N [v1, v2, v3] = [some v1, some v2, some v3, none] := by
    unfold L2.start
    rw [hl]
    rfl
  rw [hs]
  unfold t_L_works
  refine s_asg_of (t_lst_of (t_cons_of ⟨tb, fun f1 c1 H1 ex nn tb1 n1 a1 b1 => ⟨by show 1 ≤ sizeLine; decide, fun l hl1 => ?_⟩⟩))
  have hl0 : H l = none := nn l hl1
  have st : WkSt T mk H (upd H1 l (.lst [.ref f1])) l [f1] := ⟨extN_new ex hl0, tb1.ext (fun b o e => (upd_ne (ne_of_none e hl1)).trans e), upd_same, hl0, fun i f hf => by
    cases i with
    | zero =>
      cases hf
      exact MadeAt.extN ⟨c1, a1, b1⟩ (extN_new (ExtN.refl H1) hl1)
    | succ i => simp at hf⟩
  show trC _ _ [some v1, some v2, some v3, some (.ref l)] _ _
  refine wk_step st rfl (by decide) rfl fun H2 f2 st2 => wk_step st2 rfl (by decide) rfl fun H3 f3 st3 => wk_step st3 rfl (by decide) rfl fun H4 f4 st4 => ?_
  dsimp only [trR]
  refine ev_var (v := .ref l) rfl _ ?_
  intro C CZ newC
  have up : ∀ b u, H4 b = some u → put C H4 b = some u := fun b u e => by
    refine (put_out ?_).trans e
    cases z : C b with
    | none => rfl
    | some o2 =>
      rw [CZ.new b o2 z] at e
      cases e
  have kept : ∀ j f, j < 4 → [f1, f2, f3, f4][j]? = some f → Kept3 H (put C H4) (L j) fr [v1, v2, v3] f := fun j f hj hf => by
    obtain ⟨c', a, b⟩ := st4.fs j f hf
    have e := emk j c'
    have b2 : H4 (mk j c').c = some (CodeO (mk j c').c (mk j c').qual) := by
      have ec : (mk j c').c = c' := by rw [e]
      rw [ec]
      exact b
    have bn : ∃ (T : List (Addr × Obj)) (us : List Value), (∀ p ∈ T, H4 p.1 = some (.frz p.2 (.own 0))) ∧ Vals [] us ∧ ∀ (s : Shared) (doc pm ctv : Value), (∀ p ∈ T, s.heap.get? p.1 = some p.2) → BindsTo s ((mk j c').fd doc pm ctv) ⟨[], []⟩ (([] : List Str).zip us) :=
      ⟨[], [], (fun p hp => absurd hp (by simp)), Paired.nil, fun s doc pm ctv _ => BindsTo.of_eq (bnd j hj c' doc pm ctv)⟩
    refine ⟨mk j c', C, thunk_of CZ a b2 (by rw [e]) (fun y hy => by rw [e] at hy; exact free j hj y hy) ?_ (fun i y ey => ⟨by rw [e]; exact at_ j hj y (List.mem_of_getElem? ey), i, ?_, fun v ev => ?_⟩) rfl bn, by rw [e], by rw [e], by rw [e], newC⟩
    · rw [hN, List.length_take, hl]
      rfl
    · rw [hN] at ey
      have hi : i < 3 := by
        have := (List.getElem?_eq_some_iff.mp ey).1
        rw [List.length_take] at this
        omega
      rw [List.getElem?_take_of_lt hi] at ey
      exact ey
    · cases i with
      | zero => exact ev
      | succ i => cases i with
        | zero => exact ev
        | succ i => cases i with
          | zero => exact ev
          | succ i => simp at ev
  exact q l f1 f2 f3 f4 (put C H4) (fun b o e n => up _ _ (st4.ex b o e n)) (st4.tb.ext up) (up _ _ st4.at_) (kept 0 f1 (by decide) rfl) (kept 1 f2 (by decide) rfl) (kept 2 f3 (by decide) rfl) (kept 3 f4 (by decide) rfl)
end SS

set_option Elab.async false
set_option linter.all false
set_option maxRecDepth 100000
set_option maxHeartbeats 4000000
/-! k02: programs that cannot be, drawn. -/
namespace SS
open PySem L2 SX
local macro_rules | `(tactic| walk_at "q") => `(tactic| ((try dsimp only); refine s_seq ?_))
theorem t_slF {r : V → Option Int → Option Int → Hp → VK → Prop} {te tp : TE} {s : L2.St} {H : Hp} {Q : VK} (h : te s H fun x H1 => tp s H1 fun y H2 => ∃ i, y = .int i ∧ r x (some i) none H2 Q) : tSl r te (tPart tp) tNoPart s H Q := h
theorem cut_drop1 {xs : List V} (n : Nat) (h : n ≤ xs.length) : cutV xs (some (n : Int)) none = xs.drop n := by
  have e : HT.sIx xs.length 0 (some (n : Int)) = min n xs.length := HT.sIx_nat _ 0 n
  unfold cutV
  rw [HT.sIx_none, e, Nat.min_eq_left h, List.take_of_length_le (by rw [List.length_drop]; omega)]
/-- a display of tuples -/
def tTups : List TA → TA
  | [] => tNil
  | a :: r => tCons (tTup a) (tTups r)
abbrev TupV (H : Hp) (t : V) (vs : List V) : Prop := ∃ q, t = V.ref q ∧ H q = some (.tup vs)
theorem ea_tups {s : L2.St} : ∀ (l : List (TA × List V)) {H : Hp} (_ : ∀ p ∈ l, (∀ H', EvA p.1 s H' p.2) ∧ p.2.length ≤ 1000) {Q : List V → Hp → Prop}, (∀ ts H', Same H H' → All2 (TupV H') ts (l.map (·.2)) → Q ts H') → tTups (l.map (·.1)) s H Q
  | [], H, _, Q, q => q [] H (Same.refl _) .nil
  | p :: l, H, hl, Q, q => by
    obtain ⟨ev, le⟩ := hl p List.mem_cons_self
    refine t_cons_of (e_tup (ev H) le fun a ha => ?_)
    have k1 : Same H (upd H a (.tup p.2)) := Same.new ha
    have g1 : (upd H a (.tup p.2)) a = some (.tup p.2) := upd_same
    generalize upd H a (.tup p.2) = H1 at k1 g1 ⊢
    exact ea_tups l (fun p hp => hl p (List.mem_cons_of_mem _ hp)) fun ts H' c al => q _ H' (Same.trans k1 c) (.cons ⟨a, rfl, c _ _ g1⟩ al)
theorem DeedAt.any {H : Hp} {v : V} {e : Deed} (h : DeedAt H v e) : DAny H v (deedVs e) := by
  obtain ⟨q, rfl, g⟩ := h
  refine ⟨q, rfl, g, ?_⟩
  cases e with
  | pop => exact .inr ⟨_, _, rfl, Nat.zero_le _, fun h => by cases h⟩
  | push v => exact .inr ⟨_, _, rfl, by show 1 ≤ 10; decide, fun _ => ⟨v, rfl⟩⟩
theorem good_deedVs {e : Deed} (h : okDeed e) : isDeedV (deedVs e) = true := by
  cases e with
  | pop => decide +kernel
  | push v =>
    have n : ("push" : Str) ≠ "pop" := by decide +kernel
    show (if ("push" : Str) = "pop" then ([V.int v] : List V).isEmpty else decide (("push" : Str) = "push") && (decide (0 ≤ v) && decide (v ≤ 99))) = true
    rw [if_neg n, decide_eq_true (rfl : ("push" : Str) = "push"), decide_eq_true h.1, decide_eq_true h.2]
    rfl
theorem all2_map {α β γ : Type} {R : α → β → Prop} {S : α → γ → Prop} {f : β → γ} (g : ∀ a b, R a b → S a (f b)) : ∀ {l m}, All2 R l m → All2 S l (m.map f)
  | _, _, .nil => .nil
  | _, _, .cons a b => .cons (g _ _ a) (all2_map g b)
theorem all2_cat1 {α β : Type} {R : α → β → Prop} : ∀ {l l2 m m2}, All2 R l m → All2 R l2 m2 → All2 R (l ++ l2) (m ++ m2)
  | _, _, _, _, .nil, h => h
  | _, _, _, _, .cons a b, h => .cons a (all2_cat1 b h)
theorem all2_take1 {α β : Type} {R : α → β → Prop} : ∀ (n : Nat) {l m}, All2 R l m → All2 R (l.take n) (m.take n)
  | 0, _, _, _ => .nil
  | n + 1, _, _, .nil => .nil
  | n + 1, _, _, .cons a b => .cons a (all2_take1 n b)
theorem all2_drop1 {α β : Type} {R : α → β → Prop} : ∀ (n : Nat) {l m}, All2 R l m → All2 R (l.drop n) (m.drop n)
  | 0, _, _, h => h
  | n + 1, _, _, .nil => .nil
  | n + 1, _, _, .cons _ b => all2_drop1 n b
theorem first_in {ds : List Deed} {n : Nat} {x : List V} {more : List (List V)} (hn : n ≤ ds.length) (od : ∀ e ∈ ds, okDeed e) (hx : isDeedV x = false) : FirstBad ((ds.take n).map deedVs ++ x :: more) n := by
  have l : ((ds.take n).map deedVs).length = n := by rw [List.length_map, List.length_take, Nat.min_eq_left hn]
  refine ⟨⟨x, by rw [List.getElem?_append_right (by omega), l, Nat.sub_self]; rfl, hx⟩, fun j z hj hz => ?_⟩
  rw [List.getElem?_append_left (by omega)] at hz
  obtain ⟨e, he, rfl⟩ := List.mem_map.mp (List.mem_of_getElem? hz)
  exact good_deedVs (od e (List.mem_of_mem_take he))

/-! ### lists of described items, made on the way -/
section
variable {α : Type} {E : Hp → V → α → Prop} {s : L2.St} {H : Hp} {K : PySem.W.Frag}
def EvV (E : Hp → V → α → Prop) (t : TE) (s : L2.St) (H : Hp) (x : α) : Prop := ∀ Q : VK, (∀ v H', Same H H' → E H' v x → Q v H') → t s H Q
def EvX (E : Hp → V → α → Prop) (t : TE) (s : L2.St) (H : Hp) (xs : List α) : Prop := ∀ Q : VK, (∀ l us H', Same H H' → H' l = some (.lst us) → All2 (E H') us xs → Q (.ref l) H') → t s H Q
def Mn (E : Hp → V → α → Prop) : Prop := ∀ H H' v x, Same H H' → E H v x → E H' v x
theorem evx_var {n : Nat} {l : Addr} {us : List V} {xs : List α} (e : s[n]? = some (some (.ref l))) (h : H l = some (.lst us)) (a : All2 (E H) us xs) : EvX E (tVar n) s H xs := fun Q q => ev_var e _ (q l us H (Same.refl H) h a)
theorem evx_cat {ta tb : TE} {xs ys : List α} (m : Mn E) (ha : EvX E ta s H xs) (hb : ∀ H', Same H H' → EvX E tb s H' ys) (l1 : xs.length ≤ 1000) (l2 : ys.length ≤ 1000) : EvX E (tOp rCat ta tb) s H (xs ++ ys) := fun Q q =>
  t_op_of (ha _ fun l us H1 s1 g1 a1 => hb H1 s1 _ fun b zs H2 s2 g2 a2 => ⟨l, b, us, zs, rfl, rfl, s2 _ _ g1, g2, by rw [a1.length, a2.length, sizeLine_eq]; omega, fun p hp => by
    have s3 : Same H2 (upd H2 p (.lst (us ++ zs))) := Same.new hp
    exact q p _ _ (Same.trans s1 (Same.trans s2 s3)) upd_same (all2_cat1 (a1.mono fun _ _ h => m _ _ _ _ (Same.trans s2 s3) h) (a2.mono fun _ _ h => m _ _ _ _ s3 h))⟩)
theorem evx_take {te tp : TE} {l : Addr} {us : List V} {xs : List α} {n : Nat} (m : Mn E) (h1 : Ev te s H (.ref l)) (h2 : Ev tp s H (.int n)) (g : H l = some (.lst us)) (a : All2 (E H) us xs) : EvX E (tSl (rSlL K) te tNoPart (tPart tp)) s H (xs.take n) := fun Q q =>
  t_slN h1 h2 (SqL.of g) fun p hp => q p _ _ (Same.new hp) upd_same (all2_take1 n (a.mono fun _ _ h => m _ _ _ _ (Same.new hp) h))
theorem evx_drop {te tp : TE} {l : Addr} {us : List V} {xs : List α} {n : Nat} (m : Mn E) (h1 : Ev te s H (.ref l)) (h2 : Ev tp s H (.int n)) (g : H l = some (.lst us)) (a : All2 (E H) us xs) (le : n ≤ xs.length) : EvX E (tSl (rSlL K) te (tPart tp) tNoPart) s H (xs.drop n) := fun Q q =>
  t_slF (h1 _ (h2 _ ⟨(n : Nat), rfl, l, us, rfl, SqL.of g, fun p hp => by
    rw [cut_drop1 n (by rw [a.length]; exact le)]
    exact q p _ _ (Same.new hp) upd_same (all2_drop1 n (a.mono fun _ _ h => m _ _ _ _ (Same.new hp) h))⟩))
theorem evx_one {te : TE} {x : α} (m : Mn E) (h : EvV E te s H x) : EvX E (tLst (tCons te tNil)) s H [x] := fun Q q =>
  t_lst_of (t_cons_of (h _ fun v H1 s1 e => ⟨by show 1 ≤ sizeLine; decide, fun p hp => q p [v] _ (Same.trans s1 (Same.new hp)) upd_same (.cons (m _ _ _ _ (Same.new hp) e) .nil)⟩))
theorem evx_two {te tu : TE} {x y : α} (m : Mn E) (h : EvV E te s H x) (h2 : ∀ H', Same H H' → EvV E tu s H' y) : EvX E (tLst (tCons te (tCons tu tNil))) s H [x, y] := fun Q q =>
  t_lst_of (t_cons_of (h _ fun v H1 s1 e => t_cons_of (h2 H1 s1 _ fun u H2 s2 e2 => ⟨by show 2 ≤ sizeLine; decide, fun p hp => q p [v, u] _ (Same.trans s1 (Same.trans s2 (Same.new hp))) upd_same (.cons (m _ _ _ _ (Same.trans s2 (Same.new hp)) e) (.cons (m _ _ _ _ (Same.new hp) e2) .nil))⟩)))
theorem all2_flat {E : V → α → Prop} {us : List V} {xs : List α} (a : All2 E us xs) : ∀ n : Nat, All2 E (List.replicate n us).flatten (List.replicate n xs).flatten
  | 0 => .nil
  | n + 1 => by
    rw [List.replicate_succ, List.replicate_succ, List.flatten_cons, List.flatten_cons]
    exact all2_cat1 a (all2_flat a n)
theorem evx_rep {ta tb : TE} {xs : List α} {n : Nat} (m : Mn E) (ha : EvX E ta s H xs) (hb : ∀ H', Same H H' → Ev tb s H' (.int n)) (l1 : xs.length * n ≤ 1000) (hn : n ≤ 1000) : EvX E (tOp rRep ta tb) s H (List.replicate n xs).flatten := fun Q q =>
  t_op_of (ha _ fun l us H1 s1 g1 a1 => hb H1 s1 _ ⟨l, (n : Int), us, rfl, rfl, g1, by omega, by omega, by rw [Int.toNat_natCast, a1.length, sizeLine_eq]; omega, fun p hp => by
    rw [Int.toNat_natCast]
    exact q p _ _ (Same.trans s1 (Same.new hp)) upd_same (all2_flat (a1.mono fun _ _ h => m _ _ _ _ (Same.new hp) h) n)⟩)
end
theorem mn_d : Mn DAny := fun _ _ _ _ s h => DAny.mono (fun b xs e => s _ _ e) h
theorem mn_r : Mn RowAny := fun _ _ _ _ s h => RowAny.extN (same_extN s) h
theorem evv_row {t : TE} {s : L2.St} {H : Hp} {xss : List (List V)} (h : EvX DAny t s H xss) (le : xss.length ≤ 1000) : EvV RowAny t s H xss := fun Q q => h _ fun l us H' s1 g a => q _ H' s1 ⟨l, us, rfl, g, a, le⟩
theorem evv_tup {ar : TA} {s : L2.St} {H : Hp} {xs : List V} (h : EvA ar s H xs) (le : xs.length ≤ 1000) (ok : DvOk xs) : EvV DAny (tTup ar) s H xs := fun Q q => e_tup h le fun p hp => q _ _ (Same.new hp) ⟨p, rfl, upd_same, ok⟩
/-! ### rows drawn, as rows of any tuples -/
def rowsV (ps : List (List Deed)) : List (List (List V)) := ps.map fun p => p.map deedVs
theorem prog_row {H : Hp} {v : V} {p : List Deed} (h : ProgAt H v p) (le : p.length ≤ 4) : RowAny H v (p.map deedVs) := by
  obtain ⟨q, us, rfl, g, a⟩ := h
  exact ⟨q, us, rfl, g, all2_map (fun _ _ h => DeedAt.any h) a, by rw [List.length_map]; omega⟩
theorem pg_rows {H : Hp} {us : List V} : ∀ {us : List V} {ps : List (List Deed)}, All2 (ProgAt H) us ps → (∀ p ∈ ps, p.length ≤ 4) → All2 (RowAny H) us (rowsV ps)
  | _, _, .nil, _ => .nil
  | _, _, .cons a b, l => .cons (prog_row a (l _ List.mem_cons_self)) (pg_rows (us := us) b fun p hp => l p (List.mem_cons_of_mem _ hp))
theorem good_rowV {p : List Deed} (l : p.length ≤ 4) (od : ∀ e ∈ p, okDeed e) : goodRow (p.map deedVs) := ⟨by rw [List.length_map]; exact l, fun x hx => by
  obtain ⟨e, he, rfl⟩ := List.mem_map.mp hx
  exact good_deedVs (od e he)⟩
theorem good_rowsV {ps : List (List Deed)} (l : ∀ p ∈ ps, p.length ≤ 4) (od : ∀ p ∈ ps, ∀ e ∈ p, okDeed e) : ∀ x ∈ rowsV ps, goodRow x := fun x hx => by
  obtain ⟨p, hp, rfl⟩ := List.mem_map.mp hx
  exact good_rowV (l p hp) (od p hp)
theorem bad_mid {rows more : List (List (List V))} {X : List (List V)} {h n : Nat} (hh : h < rows.length) (good : ∀ x ∈ rows, goodRow x) (bad : RowBad X n) : BadAt (rows.take h ++ [X] ++ more) h n := by
  have l : (rows.take h).length = h := by rw [List.length_take]; omega
  refine ⟨⟨X, ?_, bad⟩, fun j x hj hx => ?_⟩
  · rw [List.append_assoc, List.getElem?_append_right (by omega), l, Nat.sub_self]
    rfl
  · rw [List.append_assoc, List.getElem?_append_left (by omega)] at hx
    exact good x (List.mem_of_mem_take (List.mem_of_getElem? hx))
/-- rows stay where the dice turn -/
theorem RowAny.dice {K : PySem.W.Frag} {H H' : Hp} {d : Addr} (c : Chg (Dc d) H H') (x : DiceAt K H d) {v : V} {xss : List (List V)} (h : RowAny H v xss) : RowAny H' v xss := by
  obtain ⟨p, us, rfl, g, a, l⟩ := h
  refine ⟨p, us, rfl, c.ne g fun z => ?_, a.mono fun _ _ => DAny.mono c.tup, l⟩
  obtain ⟨sc, ns, i, j, k, hd, _⟩ := x
  rw [z, hd] at g
  cases g
  cases a with
  | cons _ r =>
    cases r with
    | cons b _ =>
      obtain ⟨q, e, _⟩ := b
      cases e
theorem rows_ne {K : PySem.W.Frag} {H : Hp} {d l : Addr} {us : List V} {rows : List (List (List V))} (x : DiceAt K H d) (g : H l = some (.lst us)) (a : All2 (RowAny H) us rows) : l ≠ d := fun z => by
  obtain ⟨sc, ns, i, j, k, hd, _⟩ := x
  rw [z, hd] at g
  cases g
  cases a with
  | cons _ r =>
    cases r with
    | cons b _ =>
      obtain ⟨q, _, e, _⟩ := b
      cases e
end SS

set_option Elab.async false
set_option linter.all false
set_option maxRecDepth 100000
set_option maxHeartbeats 4000000
/-! k02: `_law_bad`. -/
namespace SS
open PySem L2 SX
local macro_rules | `(tactic| walk_at "q") => `(tactic| ((try dsimp only); refine s_seq ?_))
def oddZ : List (TA × List V) := [(tNil, []), (tCons (tC (.str "pop")) (tCons (tC (.int 3)) tNil), [.str "pop", .int 3]), (tCons (tC (.str "push")) tNil, [.str "push"]), (tCons (tC (.str "push")) (tCons (tC (.int 100)) tNil), [.str "push", .int 100]),
  (tCons (tC (.str "push")) (tCons (tUn rNegI (tC (.int 1))) tNil), [.str "push", .int (-1)]), (tCons (tC (.str "push")) (tCons (tC (.int 1)) (tCons (tC (.int 1)) tNil)), [.str "push", .int 1, .int 1]), (tCons (tC (.str "look")) tNil, [.str "look"])]
theorem oddZ_ev {s : L2.St} : ∀ p ∈ oddZ, (∀ H', EvA p.1 s H' p.2) ∧ p.2.length ≤ 1000 := fun p hp => by
  simp only [oddZ, List.mem_cons, List.not_mem_nil, or_false] at hp
  rcases hp with rfl | rfl | rfl | rfl | rfl | rfl | rfl
  · exact ⟨fun _ => ea_nil, by show 0 ≤ 1000; decide⟩
  · exact ⟨fun _ => ea_cons ev_c (ea_cons ev_c ea_nil), by show 2 ≤ 1000; decide⟩
  · exact ⟨fun _ => ea_cons ev_c ea_nil, by show 1 ≤ 1000; decide⟩
  · exact ⟨fun _ => ea_cons ev_c (ea_cons ev_c ea_nil), by show 2 ≤ 1000; decide⟩
  · exact ⟨fun _ => ea_cons ev_c (ea_cons (ev_neg ev_c) ea_nil), by show 2 ≤ 1000; decide⟩
  · exact ⟨fun _ => ea_cons ev_c (ea_cons ev_c (ea_cons ev_c ea_nil)), by show 3 ≤ 1000; decide⟩
  · exact ⟨fun _ => ea_cons ev_c ea_nil, by show 1 ≤ 1000; decide⟩
theorem oddZ_bad : ∀ p ∈ oddZ, DvOk p.2 ∧ isDeedV p.2 = false := fun p hp => by
  simp only [oddZ, List.mem_cons, List.not_mem_nil, or_false] at hp
  rcases hp with rfl | rfl | rfl | rfl | rfl | rfl | rfl
  · exact ⟨.inl rfl, by decide +kernel⟩
  · exact ⟨.inr ⟨_, _, rfl, by show 1 ≤ 10; decide, fun _ => ⟨_, rfl⟩⟩, by decide +kernel⟩
  · exact ⟨.inr ⟨_, _, rfl, by show 0 ≤ 10; decide, fun h => by cases h⟩, by decide +kernel⟩
  · exact ⟨.inr ⟨_, _, rfl, by show 1 ≤ 10; decide, fun _ => ⟨_, rfl⟩⟩, by decide +kernel⟩
  · exact ⟨.inr ⟨_, _, rfl, by show 1 ≤ 10; decide, fun _ => ⟨_, rfl⟩⟩, by decide +kernel⟩
  · exact ⟨.inr ⟨_, _, rfl, by show 2 ≤ 10; decide, fun h => by cases h⟩, by decide +kernel⟩
  · exact ⟨.inr ⟨_, _, rfl, by show 0 ≤ 10; decide, fun h => by cases h⟩, by decide +kernel⟩
def sp_L_badZ (Z : Cs) : Sp := fun vs H Q _ => ∃ (d lp : Addr) (ps : List (List Deed)), vs = [.ref d, .ref lp] ∧ DiceAt Z.K H d ∧ PgAt H lp ps ∧ 1 ≤ ps.length ∧ ps.length ≤ 3 ∧ (∀ p ∈ ps, p.length ≤ 4) ∧ (∀ p ∈ ps, ∀ e ∈ p, okDeed e) ∧
  ∀ t l us (rows : List (List (List V))) (h n : Nat) H', Chg (Dc d) H H' → DiceAt Z.K H' d → H' t = some (.tup [.ref l, .int h, .int n]) → H' l = some (.lst us) → All2 (RowAny H') us rows → rows.length ≤ 1000 → ProgBad rows h n → Q (.ref t) H'
/-- _law_bad: 0 _law_d, 1 _law_programs_here, 2 _law_kind, 3 _law_hand, 4 _law_behind, 5 _law_row, 6 _law_at, 7 _law_odd -/
def t_L_badZ (Z : Cs) : TS :=
  tSeq (tAsg (tCall (sp_L_next Z) [] E0 (tCons (tVar 0) (tCons (tC (.int 4)) tNil))) (gName 2))
    (tSeq (tIfS (tTest (tOp rLtI (tVar 2) (tC (.int 2)))) ((tRet (tTup (tCons (tOp (rIxL Z.K) (tLst (tCons (tLst tNil) (tCons (tOp rRep (tVar 1) (tC (.int 4))) tNil))) (tVar 2)) (tCons (tOp (rIxL Z.K) (tLst (tCons (tC (.int 0)) (tCons (tOp rMulI (tCB (rLen1 Z.K) (tCons (tVar 1) tNil)) (tC (.int 4))) tNil))) (tVar 2)) (tCons (tC (.int 0)) tNil)))))) (tNext))
    (tSeq (tAsg (tCall (sp_L_next Z) [] E0 (tCons (tVar 0) (tCons (tCB (rLen1 Z.K) (tCons (tVar 1) tNil)) tNil))) (gName 3))
    (tSeq (tAsg (tOp rRep (tLst (tCons (tLst (tCons (tTup tNil) tNil)) tNil)) (tCB rInt1 (tCons (tOp rLtI (tCB (rLen1 Z.K) (tCons (tVar 1) tNil)) (tC (.int 3))) tNil))) (gName 4))
    (tSeq (tIfS (tTest (tOp rEq (tVar 2) (tC (.int 2)))) ((tRet (tTup (tCons (tOp rCat (tOp rCat (tOp rCat (tSl (rSlL Z.K) (tVar 1) tNoPart (tPart (tVar 3))) (tLst (tCons (tOp rRep (tLst (tCons (tTup (tCons (tC (.str "pop")) tNil)) tNil)) (tC (.int 5))) tNil))) (tSl (rSlL Z.K) (tVar 1) (tPart (tOp rAddI (tVar 3) (tC (.int 1)))) tNoPart)) (tVar 4)) (tCons (tVar 3) (tCons (tC (.int 4)) tNil)))))) (tNext))
    (tSeq (tAsg (tSl (rSlL Z.K) (tOp (rIxL Z.K) (tVar 1) (tVar 3)) tNoPart (tPart (tC (.int 2)))) (gName 5))
    (tSeq (tAsg (tCall (sp_L_next Z) [] E0 (tCons (tVar 0) (tCons (tOp rAddI (tCB (rLen1 Z.K) (tCons (tVar 5) tNil)) (tC (.int 1))) tNil))) (gName 6))
    (tSeq (tAsg (tOp (rIxL Z.K) (tLst (tCons (tTup tNil) (tCons (tTup (tCons (tC (.str "pop")) (tCons (tC (.int 3)) tNil))) (tCons (tTup (tCons (tC (.str "push")) tNil)) (tCons (tTup (tCons (tC (.str "push")) (tCons (tC (.int 100)) tNil))) (tCons (tTup (tCons (tC (.str "push")) (tCons (tUn rNegI (tC (.int 1))) tNil))) (tCons (tTup (tCons (tC (.str "push")) (tCons (tC (.int 1)) (tCons (tC (.int 1)) tNil)))) (tCons (tTup (tCons (tC (.str "look")) tNil)) tNil)))))))) (tCall (sp_L_next Z) [] E0 (tCons (tVar 0) (tCons (tC (.int 7)) tNil)))) (gName 7))
    ((tRet (tTup (tCons (tOp rCat (tOp rCat (tOp rCat (tSl (rSlL Z.K) (tVar 1) tNoPart (tPart (tVar 3))) (tLst (tCons (tOp rCat (tOp rCat (tSl (rSlL Z.K) (tVar 5) tNoPart (tPart (tVar 6))) (tLst (tCons (tVar 7) (tCons (tTup tNil) tNil)))) (tSl (rSlL Z.K) (tVar 5) (tPart (tVar 6)) tNoPart)) tNil))) (tSl (rSlL Z.K) (tVar 1) (tPart (tOp rAddI (tVar 3) (tC (.int 1)))) tNoPart)) (tVar 4)) (tCons (tVar 3) (tCons (tVar 6) tNil)))))))))))))
theorem flat_len {α : Type} (xs : List α) : ∀ n : Nat, (List.replicate n xs).flatten.length = n * xs.length
  | 0 => by simp
  | n + 1 => by rw [List.replicate_succ, List.flatten_cons, List.length_append, flat_len xs n, Nat.add_mul, Nat.one_mul]; omega
theorem first_odd {ds : List (List V)} {n : Nat} {x : List V} {more : List (List V)} (hn : n ≤ ds.length) (od : ∀ e ∈ ds, isDeedV e = true) (hx : isDeedV x = false) : FirstBad (ds.take n ++ x :: more) n := by
  have l : (ds.take n).length = n := by rw [List.length_take, Nat.min_eq_left hn]
  refine ⟨⟨x, by rw [List.getElem?_append_right (by omega), l, Nat.sub_self]; rfl, hx⟩, fun j z hj hz => ?_⟩
  rw [List.getElem?_append_left (by omega)] at hz
  exact od z (List.mem_of_mem_take (List.mem_of_getElem? hz))
theorem pure_L_badZ {Z : Cs} (vs : List V) (H : Hp) (Q : VK) (E : XK) (h : sp_L_badZ Z vs H Q E) :
    t_L_badZ Z { nx := fun _ H' => Q .non H', rt := Q } (start ["_law_d", "_law_programs_here", "_law_kind", "_law_hand", "_law_behind", "_law_row", "_law_at", "_law_odd"] vs) H := by
  obtain ⟨d, lp, ps, rfl, x, hp, l1, l2, l4, od, q⟩ := h
  unfold t_L_badZ
  walk_at "q"
  refine s_asg_of (s_next (d := d) rfl x (ev_N 4 rfl) (by decide) (by decide) fun k H1 hk c1 x1 => ?_)
  show ({ nx := _, rt := Q : Ends }).nx _ _
  have hp1 := hp.dice c1 x
  obtain ⟨us, gl, hu⟩ := id hp1
  have ul := hu.length
  have ru := pg_rows (us := us) hu l4
  have rl : (rowsV ps).length = ps.length := by rw [rowsV, List.length_map]
  have goodR := good_rowsV l4 od
  walk_at "q"
  refine s_if (et_test (ev_lt (ev_var (v := .int (k : Nat)) rfl) ev_c)) (fun e => ?_) fun e => ?_
  · have k2 : k < 2 := by have := of_decide_eq_true e; omega
    refine s_ret_of (t_tup_of (t_cons_of (t_op_of (t_lst_of (t_cons_of (e_lst ea_nil (by show 0 ≤ 1000; decide) fun a0 ha0 => t_cons_of (evx_rep (E := RowAny) (xs := rowsV ps) (n := 4) mn_r (evx_var rfl (Same.new ha0 _ _ gl) (ru.mono fun _ _ h => mn_r _ _ _ _ (Same.new ha0) h)) (fun _ _ => ev_N 4 rfl) (by rw [rl]; omega) (by decide) _ fun r4 us4 H2 s2 g2 a2 => ⟨by show 2 ≤ sizeLine; decide, fun p hp2 => ?_⟩)))))))
    have s3 : Same H1 (upd H2 p (.lst [.ref a0, .ref r4])) := Same.trans (Same.new ha0) (Same.trans s2 (Same.new hp2))
    have g0 : (upd H2 p (.lst [V.ref a0, .ref r4])) a0 = some (.lst []) := Same.new hp2 _ _ (s2 _ _ upd_same)
    have g4 := Same.new (o := .lst [V.ref a0, .ref r4]) hp2 _ _ g2
    have a4 := a2.mono fun _ _ h => mn_r _ _ _ _ (Same.new (o := .lst [V.ref a0, .ref r4]) hp2) h
    have gp : (upd H2 p (.lst [V.ref a0, .ref r4])) p = some (.lst [.ref a0, .ref r4]) := upd_same
    generalize upd H2 p (.lst [V.ref a0, .ref r4]) = H3 at s3 g0 g4 a4 gp ⊢
    have lenE : ∀ {H' : Hp}, Same H1 H' → Ev (tCB (rLen1 Z.K) (tCons (tVar 1) tNil)) [some (V.ref d), some (.ref lp), some (.int (k : Nat)), none, none, none, none, none] H' (.int (ps.length : Nat)) := fun {H'} s => ev_is (ev_lenL (ev_var (v := .ref lp) rfl) (SqL.of (s _ _ gl))) (by rw [ul])
    have two : ∀ (l : Addr) (us' : List V) (rows : List (List (List V))) (h : Nat), H3 l = some (.lst us') → All2 (RowAny H3) us' rows → rows.length ≤ 1000 → ProgBad rows h 0 → (∀ H', Same H3 H' → ∀ R : VK, (∀ H2, Same H' H2 → R (.int h) H2) → (tOp (rIxL Z.K) (tLst (tCons (tC (.int 0)) (tCons (tOp rMulI (tCB (rLen1 Z.K) (tCons (tVar 1) tNil)) (tC (.int 4))) tNil))) (tVar 2)) [some (V.ref d), some (.ref lp), some (.int (k : Nat)), none, none, none, none, none] H' R) →
        tCons (tOp (rIxL Z.K) (tLst (tCons (tC (.int 0)) (tCons (tOp rMulI (tCB (rLen1 Z.K) (tCons (tVar 1) tNil)) (tC (.int 4))) tNil))) (tVar 2)) (tCons (tC (.int 0)) tNil) [some (V.ref d), some (.ref lp), some (.int (k : Nat)), none, none, none, none, none] H3 fun xs H2 => (V.ref l :: xs).length ≤ sizeLine ∧ ∀ p, H2 p = none → Q (.ref p) (upd H2 p (.tup (V.ref l :: xs))) := fun l us' rows h gl' al le pb ev => by
      refine t_cons_of (ev H3 (Same.refl _) _ fun H4 s4 => t_cons_of (ev_c _ ⟨by show 3 ≤ sizeLine; decide, fun t ht => ?_⟩))
      have s5 : Same H3 (upd H4 t (.tup [.ref l, .int h, .int 0])) := Same.trans s4 (Same.new ht)
      have x5 := x1.same (Same.trans s3 s5)
      exact q t l us' rows h 0 _ (c1.trans (Chg.same (Same.trans s3 s5))) x5 upd_same (s5 _ _ gl') (al.mono fun _ _ h => mn_r _ _ _ _ s5 h) le pb
    have ix : ∀ (i : Nat) (h : Nat), k = i → ([V.int 0, V.int ((ps.length : Int) * 4)])[i]? = some (.int h) → ∀ H', Same H3 H' → ∀ R : VK, (∀ H2, Same H' H2 → R (.int h) H2) → (tOp (rIxL Z.K) (tLst (tCons (tC (.int 0)) (tCons (tOp rMulI (tCB (rLen1 Z.K) (tCons (tVar 1) tNil)) (tC (.int 4))) tNil))) (tVar 2)) [some (V.ref d), some (.ref lp), some (.int (k : Nat)), none, none, none, none, none] H' R := fun i h ek e H' s R r => by
      subst ek
      refine t_op_of (e_lst (ea_cons ev_c (ea_cons (ev_mul (lenE (Same.trans s3 s)) ev_c (.inr ⟨by decide, by decide⟩)) ea_nil)) (by show 2 ≤ 1000; decide) fun p2 hp3 => ev_var (v := .int (k : Nat)) rfl _ ⟨p2, _, _, _, rfl, rfl, SqL.of upd_same, atI_nat e, r _ (Same.new hp3)⟩)
    refine ev_var (v := .int (k : Nat)) rfl _ ?_
    by_cases ek : k = 0
    · refine ⟨p, _, _, _, rfl, rfl, SqL.of gp, atI_nat (j := k) (by rw [ek]; rfl), ?_⟩
      exact two a0 [] [] 0 g0 .nil (by show 0 ≤ 1000; decide) (.inl ⟨fun z => by have := z.1; simp at this, rfl, rfl⟩) (ix 0 0 ek rfl)
    · have ek1 : k = 1 := by omega
      refine ⟨p, _, _, _, rfl, rfl, SqL.of gp, atI_nat (j := k) (by rw [ek1]; rfl), ?_⟩
      have fl := flat_len (rowsV ps) 4
      rw [rl] at fl
      exact two r4 us4 _ (4 * ps.length) g4 a4 (by rw [fl]; omega) (.inl ⟨fun z => by have := z.2; rw [fl] at this; omega, fl.symm, rfl⟩) (ix 1 _ ek1 (by show some (V.int ((ps.length : Int) * 4)) = some (V.int ((4 * ps.length : Nat) : Int)); congr 2; omega))
  dsimp only [tNext]
  have kge : 2 ≤ k := by have := of_decide_eq_false e; omega
  have nl : lp ≠ d := rows_ne x1 gl ru
  walk_at "q"
  refine s_asg_of (s_next (d := d) rfl x1 (ev_is (ev_lenL (ev_var (v := .ref lp) rfl) (SqL.of gl)) (by rw [ul])) (by omega) (by omega) fun h H2 hh c2 x2 => ?_)
  show ({ nx := _, rt := Q : Ends }).nx _ _
  have gl2 := c2.ne gl nl
  have ru2 := ru.mono fun _ _ h => RowAny.dice c2 x1 h
  have c12 := c1.trans c2
  have hb : ∃ b : Nat, b = (if ps.length < 3 then 1 else 0) := ⟨_, rfl⟩
  obtain ⟨b, eb⟩ := hb
  have b1 : b ≤ 1 ∧ ps.length + b ≤ 3 := by
    rw [eb]
    split <;> omega
  walk_at "q"
  refine s_asg_of (evx_rep (E := RowAny) (xs := [[[]]]) (n := b) mn_r (evx_one mn_r (evv_row (evx_one mn_d (evv_tup ea_nil (by show 0 ≤ 1000; decide) (.inl rfl))) (by show 1 ≤ 1000; decide))) (fun H' s' => ?_) (by show 1 * b ≤ 1000; omega) (by omega) _ fun l4 us4 H3 s3 g3 a3 => ?_)
  · refine ev_is (ev_int1 (ev_lt (ev_is (ev_lenL (ev_var (v := .ref lp) rfl) (SqL.of (s' _ _ gl2))) (by rw [ul])) ev_c)) ?_
    rw [eb]
    by_cases z : ps.length < 3
    · rw [decide_eq_true (show (ps.length : Int) < 3 by omega), if_pos z]
      rfl
    · rw [decide_eq_false (show ¬ (ps.length : Int) < 3 by omega), if_neg z]
      rfl
  show ({ nx := _, rt := Q : Ends }).nx _ _
  have gl3 := s3 _ _ gl2
  have ru3 := ru2.mono fun _ _ h => mn_r _ _ _ _ s3 h
  have x3 := x2.same s3
  have c13 := c12.trans (Chg.same s3)
  have fb := flat_len ([[[]]] : List (List (List V))) b
  have fb1 : (List.replicate b ([[[]]] : List (List (List V)))).flatten.length = b := by rw [fb]; show b * 1 = b; omega
  have tlen : ((rowsV ps).take h).length = h := by rw [List.length_take, rl]; omega
  have dlen : ((rowsV ps).drop (h + 1)).length = ps.length - (h + 1) := by rw [List.length_drop, rl]
  have total : ∀ X : List (List V), ((((rowsV ps).take h ++ [X]) ++ (rowsV ps).drop (h + 1)) ++ (List.replicate b ([[[]]] : List (List (List V)))).flatten).length = ps.length + b := fun X => by
    rw [List.length_append, List.length_append, List.length_append, tlen, dlen, fb1]
    show h + 1 + (ps.length - (h + 1)) + b = ps.length + b
    omega
  have badX : ∀ (X : List (List V)) (n : Nat), RowBad X n → ProgBad ((((rowsV ps).take h ++ [X]) ++ (rowsV ps).drop (h + 1)) ++ (List.replicate b ([[[]]] : List (List (List V)))).flatten) h n := fun X n rb => by
    refine .inr ⟨by rw [total]; omega, ?_⟩
    rw [List.append_assoc]
    exact bad_mid (by rw [rl]; exact hh) goodR rb
  generalize hB : (List.replicate b ([[[]]] : List (List (List V)))).flatten = beh at a3 fb1 total badX
  walk_at "q"
  refine s_if (et_test (ev_eq (ev_var (v := .int (k : Nat)) rfl) ev_c rfl)) (fun e => ?_) fun e => ?_
  · refine s_ret_of (t_tup_of (t_cons_of ?_))
    have X5 : EvX RowAny (tOp rCat (tOp rCat (tOp rCat (tSl (rSlL Z.K) (tVar 1) tNoPart (tPart (tVar 3))) (tLst (tCons (tOp rRep (tLst (tCons (tTup (tCons (tC (.str "pop")) tNil)) tNil)) (tC (.int 5))) tNil))) (tSl (rSlL Z.K) (tVar 1) (tPart (tOp rAddI (tVar 3) (tC (.int 1)))) tNoPart)) (tVar 4))
        [some (V.ref d), some (.ref lp), some (.int (k : Nat)), some (.int (h : Nat)), some (.ref l4), none, none, none] H3 ((((rowsV ps).take h ++ [(List.replicate 5 [[V.str "pop"]]).flatten]) ++ (rowsV ps).drop (h + 1)) ++ beh) :=
      evx_cat mn_r (evx_cat mn_r (evx_cat mn_r (evx_take mn_r (ev_var (v := .ref lp) rfl) (ev_var (v := .int (h : Nat)) rfl) gl3 ru3) (fun H' s' => evx_one mn_r (evv_row (evx_rep mn_d (evx_one mn_d (evv_tup (ea_cons ev_c ea_nil) (by show 1 ≤ 1000; decide) (.inr ⟨_, _, rfl, Nat.zero_le _, fun h => by cases h⟩))) (fun _ _ => ev_N 5 rfl) (by show 1 * 5 ≤ 1000; decide) (by decide)) (by rw [flat_len]; show 5 * 1 ≤ 1000; decide)))
          (by rw [tlen]; omega) (by show 1 ≤ 1000; decide)) (fun H' s' => evx_drop mn_r (ev_var (v := .ref lp) rfl) (ev_is (ev_add (ev_var (v := .int (h : Nat)) rfl) ev_c) rfl) (s' _ _ gl3) (ru3.mono fun _ _ h => mn_r _ _ _ _ s' h) (by rw [rl]; omega)) (by rw [List.length_append, tlen]; show h + 1 ≤ 1000; omega) (by rw [dlen]; omega))
        (fun H' s' => evx_var rfl (s' _ _ g3) (a3.mono fun _ _ h => mn_r _ _ _ _ s' h)) (by rw [List.length_append, List.length_append, tlen, dlen]; show h + 1 + _ ≤ 1000; omega) (by rw [fb1]; omega)
    refine X5 _ fun l5 us5 H4 s4 g5 a5 => t_cons_of (ev_var (v := .int (h : Nat)) rfl _ (t_cons_of (ev_c _ ⟨by show 3 ≤ sizeLine; decide, fun t ht => ?_⟩)))
    have s5 : Same H4 (upd H4 t (.tup [.ref l5, .int (h : Nat), .int 4])) := Same.new ht
    exact q t l5 us5 _ h 4 _ (c13.trans (Chg.same (Same.trans s4 s5))) (x3.same (Same.trans s4 s5)) upd_same (s5 _ _ g5) (a5.mono fun _ _ h => mn_r _ _ _ _ s5 h) (by rw [total]; omega) (badX _ 4 (.inl ⟨by rw [flat_len]; show 4 < 5 * 1; decide, rfl⟩))
  dsimp only [tNext]
  -- an odd deed
  obtain ⟨xh, hxh⟩ : ∃ xh, (rowsV ps)[h]? = some xh := ⟨_, List.getElem?_eq_getElem (by rw [rl]; exact hh)⟩
  obtain ⟨vh, hvh, rh⟩ := ru3.get h hxh
  obtain ⟨qh, ush, rfl, gh, ah, _⟩ := id rh
  have gx : ∀ z ∈ xh, isDeedV z = true := (goodR xh (List.mem_of_getElem? hxh)).2
  walk_at "q"
  refine s_asg_of (evx_take (E := DAny) (n := 2) mn_d (ev_ixL (ev_var (v := .ref lp) rfl) (ev_var (v := .int (h : Nat)) rfl) (SqL.of gl3) (atI_nat hvh)) ev_c gh ah _ fun l5 us5 H4 s4 g5 a5 => ?_)
  show ({ nx := _, rt := Q : Ends }).nx _ _
  have tl2 : (xh.take 2).length ≤ 2 := by rw [List.length_take]; omega
  have u5 := a5.length
  have gt2 : ∀ z ∈ xh.take 2, isDeedV z = true := fun z hz => gx z (List.mem_of_mem_take hz)
  generalize xh.take 2 = row at a5 tl2 u5 gt2
  have x4 := x3.same s4
  have r5 : RowAny H4 (.ref l5) row := ⟨l5, us5, rfl, g5, a5, by omega⟩
  have b4 : All2 (RowAny H4) us4 beh := a3.mono fun _ _ h => mn_r _ _ _ _ s4 h
  have ru4 := ru3.mono fun _ _ h => mn_r _ _ _ _ s4 h
  walk_at "q"
  refine s_asg_of (s_next (d := d) rfl x4 (m := row.length + 1) (ev_is (ev_add (ev_lenL (ev_var (v := .ref l5) rfl) (SqL.of g5)) ev_c) (by rw [u5]; rfl)) (by omega) (by omega) fun n H5 hn c5 x5 => ?_)
  show ({ nx := _, rt := Q : Ends }).nx _ _
  have r6 := RowAny.dice c5 x4 r5
  have gl5 := c5.ne (s4 _ _ gl3) nl
  have gb5 := c5.ne (s4 _ _ g3) (rows_ne x4 (s4 _ _ g3) b4)
  have ru5 := ru4.mono fun _ _ h => RowAny.dice c5 x4 h
  have b5 := b4.mono fun _ _ h => RowAny.dice c5 x4 h
  have c15 := (c13.trans (Chg.same s4)).trans c5
  walk_at "q"
  refine s_asg_of (t_op_of (t_lst_of (ea_tups oddZ oddZ_ev fun ts H6 k6 ha => ?_)))
  have tl := ha.length
  have tl7 : ts.length = 7 := tl
  refine ⟨by rw [tl7]; decide, fun lo hlo => ?_⟩
  have k7 : Same H6 (upd H6 lo (.lst ts)) := Same.new hlo
  have g7 : (upd H6 lo (.lst ts)) lo = some (.lst ts) := upd_same
  have k57 := Same.trans k6 k7
  have x7 := x5.same k57
  have n7 : lo ≠ d := (x5.same k6).ne hlo
  have ha7 : All2 (TupV (upd H6 lo (.lst ts))) ts (oddZ.map (·.2)) := ha.mono fun v xs ⟨p, e, g⟩ => ⟨p, e, k7 _ _ g⟩
  generalize upd H6 lo (.lst ts) = H7 at k7 g7 k57 x7 ha7 ⊢
  refine s_next (d := d) rfl x7 (ev_N 7 rfl) (by decide) (by decide) fun y H8 hy c8 x8 => ?_
  obtain ⟨to, hto, tov⟩ := ha7.get y (List.getElem?_eq_getElem (show y < (oddZ.map (·.2)).length from hy))
  have pin : (oddZ.map (·.2))[y]'(show y < (oddZ.map (·.2)).length from hy) ∈ oddZ.map (·.2) := List.getElem_mem _
  generalize (oddZ.map (·.2))[y]'(show y < (oddZ.map (·.2)).length from hy) = xo at tov pin
  obtain ⟨po, hpo, exo⟩ := List.mem_map.mp pin
  obtain ⟨dvo, bad⟩ := oddZ_bad po hpo
  rw [exo] at dvo bad
  obtain ⟨to', rfl, gto⟩ := tov
  refine ⟨lo, _, _, _, rfl, rfl, SqL.of (c8.ne g7 n7), atI_nat hto, ?_⟩
  show ({ nx := _, rt := Q : Ends }).nx _ _
  dsimp only
  have gto8 := c8.tup _ _ gto
  have r8 := RowAny.dice c8 x7 (mn_r _ _ _ _ k57 r6)
  obtain ⟨l5', us8, el, g58, a58, _⟩ := id r8
  cases el
  have gl8 := c8.ne (k57 _ _ gl5) nl
  have ru8 := (ru5.mono fun _ _ h => mn_r _ _ _ _ k57 h).mono fun _ _ h => RowAny.dice c8 x7 h
  have b7 := b5.mono fun _ _ h => mn_r _ _ _ _ k57 h
  have gb8 := c8.ne (k57 _ _ gb5) (rows_ne x7 (k57 _ _ gb5) b7)
  have b8 := b7.mono fun _ _ h => RowAny.dice c8 x7 h
  have c18 := (c15.trans (Chg.same k57)).trans c8
  refine s_ret_of (t_tup_of (t_cons_of ?_))
  have odd1 : ∀ H', Same H8 H' → EvV DAny (tVar 7) [some (V.ref d), some (.ref lp), some (.int (k : Nat)), some (.int (h : Nat)), some (.ref l4), some (.ref l5), some (.int (n : Nat)), some (.ref to')] H' xo := fun H' s' Q q => ev_var (v := .ref to') rfl _ (q _ _ (Same.refl _) ⟨to', rfl, s' _ _ gto8, dvo⟩)
  have rowE2 : ∀ H', Same H8 H' → EvX DAny (tOp rCat (tOp rCat (tSl (rSlL Z.K) (tVar 5) tNoPart (tPart (tVar 6))) (tLst (tCons (tVar 7) (tCons (tTup tNil) tNil)))) (tSl (rSlL Z.K) (tVar 5) (tPart (tVar 6)) tNoPart))
      [some (V.ref d), some (.ref lp), some (.int (k : Nat)), some (.int (h : Nat)), some (.ref l4), some (.ref l5), some (.int (n : Nat)), some (.ref to')] H' ((row.take n ++ [xo, []]) ++ row.drop n) := fun H' s' =>
    evx_cat mn_d (evx_cat mn_d (evx_take mn_d (ev_var (v := .ref l5) rfl) (ev_var (v := .int (n : Nat)) rfl) (s' _ _ g58) (a58.mono fun _ _ h => mn_d _ _ _ _ s' h)) (fun H2 s2 => evx_two mn_d (odd1 H2 (Same.trans s' s2)) fun H3 s3 => evv_tup ea_nil (by show 0 ≤ 1000; decide) (.inl rfl)) (by rw [List.length_take]; omega) (by show 2 ≤ 1000; decide))
      (fun H2 s2 => evx_drop mn_d (ev_var (v := .ref l5) rfl) (ev_var (v := .int (n : Nat)) rfl) (s2 _ _ (s' _ _ g58)) (a58.mono fun _ _ h => mn_d _ _ _ _ (Same.trans s' s2) h) (by omega)) (by rw [List.length_append, List.length_take]; show _ + 2 ≤ 1000; omega) (by rw [List.length_drop]; omega)
  have rowL : ((row.take n ++ [xo, []]) ++ row.drop n).length = row.length + 2 := by
    rw [List.length_append, List.length_append, List.length_take, List.length_drop]
    show _ + 2 + _ = _
    omega
  have X9 : EvX RowAny (tOp rCat (tOp rCat (tOp rCat (tSl (rSlL Z.K) (tVar 1) tNoPart (tPart (tVar 3))) (tLst (tCons (tOp rCat (tOp rCat (tSl (rSlL Z.K) (tVar 5) tNoPart (tPart (tVar 6))) (tLst (tCons (tVar 7) (tCons (tTup tNil) tNil)))) (tSl (rSlL Z.K) (tVar 5) (tPart (tVar 6)) tNoPart)) tNil))) (tSl (rSlL Z.K) (tVar 1) (tPart (tOp rAddI (tVar 3) (tC (.int 1)))) tNoPart)) (tVar 4))
      [some (V.ref d), some (.ref lp), some (.int (k : Nat)), some (.int (h : Nat)), some (.ref l4), some (.ref l5), some (.int (n : Nat)), some (.ref to')] H8 ((((rowsV ps).take h ++ [(row.take n ++ [xo, []]) ++ row.drop n]) ++ (rowsV ps).drop (h + 1)) ++ beh) :=
    evx_cat mn_r (evx_cat mn_r (evx_cat mn_r (evx_take mn_r (ev_var (v := .ref lp) rfl) (ev_var (v := .int (h : Nat)) rfl) gl8 ru8) (fun H' s' => evx_one mn_r (evv_row (rowE2 H' s') (by rw [rowL]; omega))) (by rw [tlen]; omega) (by show 1 ≤ 1000; decide))
      (fun H' s' => evx_drop mn_r (ev_var (v := .ref lp) rfl) (ev_is (ev_add (ev_var (v := .int (h : Nat)) rfl) ev_c) rfl) (s' _ _ gl8) (ru8.mono fun _ _ h => mn_r _ _ _ _ s' h) (by rw [rl]; omega)) (by rw [List.length_append, tlen]; show h + 1 ≤ 1000; omega) (by rw [dlen]; omega))
      (fun H' s' => evx_var rfl (s' _ _ gb8) (b8.mono fun _ _ h => mn_r _ _ _ _ s' h)) (by rw [List.length_append, List.length_append, tlen, dlen]; show h + 1 + _ ≤ 1000; omega) (by rw [fb1]; omega)
  refine X9 _ fun l9 us9 H9 s9 g9 a9 => t_cons_of (ev_var (v := .int (h : Nat)) rfl _ (t_cons_of (ev_var (v := .int (n : Nat)) rfl _ ⟨by show 3 ≤ sizeLine; decide, fun t ht => ?_⟩)))
  have s10 : Same H9 (upd H9 t (.tup [.ref l9, .int (h : Nat), .int (n : Nat)])) := Same.new ht
  refine q t l9 us9 _ h n _ (c18.trans (Chg.same (Same.trans s9 s10))) (x8.same (Same.trans s9 s10)) upd_same (s10 _ _ g9) (a9.mono fun _ _ h => mn_r _ _ _ _ s10 h) (by rw [total]; omega) (badX _ n (.inr ⟨by rw [rowL]; omega, ?_⟩))
  rw [List.append_assoc]
  exact first_odd (by omega) gt2 bad
end SS

set_option Elab.async false
set_option linter.all false
set_option maxRecDepth 100000
set_option maxHeartbeats 4000000
/-! k02: what stands; what is asked of a new machine; rules that are none. -/
namespace SS
open PySem L2 SX LamX
local macro_rules | `(tactic| walk_at "q") => `(tactic| ((try dsimp only); refine s_seq ?_))
theorem tabs_chg {K : PySem.W.Frag} {T : List (Addr × Str)} {H H' : Hp} {d : Addr} (t : Tabs T H) (c : Chg (Dc d) H H') (x : DiceAt K H d) : Tabs T H' := fun p hp => by
  obtain ⟨sc, ns, a, b, e, h1, _⟩ := x
  obtain ⟨ps, g1, g2, g3⟩ := t p hp
  refine ⟨ps, c.keep _ _ g1 (fun z => ?_), g2, fun pos cv hc => ?_⟩
  · rw [show p.1 = d from z, h1] at g1
    cases g1
  · obtain ⟨c0, e0, h0⟩ := g3 pos cv hc
    refine ⟨c0, e0, c.keep _ _ h0 fun z => ?_⟩
    rw [show c0 = d from z, h1] at h0
    unfold CodeO at h0
    cases h0
theorem DiceAt.extN {K : PySem.W.Frag} {H H' : Hp} {d : Addr} (e : ExtN H H') (x : DiceAt K H d) : DiceAt K H' d := by
  obtain ⟨sc, ns, a, b, c, h1, h2, h3⟩ := x
  refine ⟨sc, ns, a, b, c, e _ _ h1 (fun q z => by cases z), ?_, h3⟩
  rcases h2 with ⟨o, h2⟩ | h2
  · exact .inl ⟨o, e _ _ h2 fun q z => by cases z⟩
  · exact .inr h2
theorem ProgAt.extN {H H' : Hp} (e : ExtN H H') {v : V} {ds : List Deed} (h : ProgAt H v ds) : ProgAt H' v ds := by
  obtain ⟨q, us, rfl, h1, h2⟩ := h
  exact ⟨q, us, rfl, e _ _ h1 (fun _ z => by cases z), h2.mono fun _ _ => DeedAt.mono (extN_tups e)⟩
theorem PgAt.extN {H H' : Hp} (e : ExtN H H') {l : Addr} {ps : List (List Deed)} (h : PgAt H l ps) : PgAt H' l ps := by
  obtain ⟨us, h1, h2⟩ := h
  exact ⟨us, e _ _ h1 (fun _ z => by cases z), h2.mono fun _ _ => ProgAt.extN e⟩
theorem Cont.notT {Z : Cs} {H : Hp} {A : MA} {m : M} {r : Role} {u : HO} (h : Cont Z H A m r u) : ∀ ps, u ≠ .tbl ps := by
  cases r with
  | ends => obtain ⟨vs, rfl, h⟩ := h; exact fun _ z => by cases z
  | hand i => obtain ⟨a, sv, h1, rfl, h3⟩ := h; exact fun _ z => by cases z
  | prog i => obtain ⟨vs, rfl, h⟩ := h; exact fun _ z => by cases z
  | _ => (have e : u = _ := h); subst e; exact fun _ z => by cases z
theorem MachAt.extN {Z : Cs} {H H' : Hp} {A : MA} {m : M} (T : MachAt Z H A m) (e : ExtN H H') : MachAt Z H' A m where
  at_ := fun r a hr => by
    obtain ⟨o, ho, hc⟩ := T.at_ r a hr
    exact ⟨o, e _ _ ho hc.notT, hc.mono (extN_tups e)⟩
  rule := T.rule.mono (extN_tups e)
  hs := T.hs
  ps := T.ps
  sep := T.sep
/-- what stands: the dice, what was drawn, the machine -/
structure D2 (Z : Cs) (T : List (Addr × Str)) (H : Hp) (d lv lp lr : Addr) (A : MA) (values : List Int) (ps : List (List Deed)) (r : Rule) : Prop where
  x : DiceAt Z.K H d
  v : H lv = some (.lst (values.map V.int))
  p : PgAt H lp ps
  ru : RuleAt H lr r
  M : MachAt Z H A (M.begin_ values ps r)
  ok : okIn values ps r
  nv : lv ≠ d
  nA : ∀ a, A.owns a → a ≠ d
  t : Tabs T H
section
variable {Z : Cs} {T : List (Addr × Str)} {H H' : Hp} {d lv lp lr : Addr} {A : MA} {values : List Int} {ps : List (List Deed)} {r : Rule}
theorem tabs_same2 (t : Tabs T H) (c : Same H H') : Tabs T H' := t.ext c
theorem D2.extN (D : D2 Z T H d lv lp lr A values ps r) (e : ExtN H H') (t : Tabs T H') : D2 Z T H' d lv lp lr A values ps r := ⟨D.x.extN e, e _ _ D.v (fun _ z => by cases z), D.p.extN e, D.ru.mono (extN_tups e), D.M.extN e, D.ok, D.nv, D.nA, t⟩
theorem D2.same (D : D2 Z T H d lv lp lr A values ps r) (c : Same H H') : D2 Z T H' d lv lp lr A values ps r := D.extN (same_extN c) (D.t.ext c)
theorem D2.dice (D : D2 Z T H d lv lp lr A values ps r) (c : Chg (Dc d) H H') (x : DiceAt Z.K H' d) : D2 Z T H' d lv lp lr A values ps r := ⟨x, c.ne D.v D.nv, D.p.dice c D.x, D.ru.mono c.tup, D.M.chg c D.nA, D.ok, D.nv, D.nA, tabs_chg D.t c D.x⟩
end
/-! ### asked of the machine -/
theorem wipe_set {s : L2.St} {k : Nat} {v : Option V} : wipe ((wipe s [k]).set k v) [k] = wipe s [k] := by
  simp [wipe, List.set_set]
theorem e_empties {s : L2.St} {H : Hp} {tl te : TE} {k n : Nat} {Q : VK} (ht : Ev tl s H (.int n)) (hn : n ≤ 1000) (hte : ∀ (i : Nat) H', i < n → Same H H' → ∀ R : VK, (∀ l, H' l = none → R (.ref l) (upd H' l (.lst []))) → te ((wipe s [k]).set k (some (.int i))) H' R)
    (q : ∀ D (ls : List Addr) H', Same H H' → H' D = some (.lst (ls.map V.ref)) → ls.length = n → (∀ a ∈ ls, H' a = some (.lst [])) → Q (.ref D) H') : tLc (iRng1 (tCons tl tNil)) (gName k) tYes te [k] s H Q :=
  e_lcR ht (by omega) (fun D i H' => Same H H' ∧ ∃ ls : List Addr, H' D = some (.lst (ls.map V.ref)) ∧ ls.length = i ∧ ∀ a ∈ ls, a ≠ D ∧ H' a = some (.lst [])) (fun D hD => ⟨Same.new hD, [], upd_same, rfl, fun a h => by cases h⟩) (fun D i H' hi hD p => by
    obtain ⟨s1, ls, gD, le, ha⟩ := p
    refine ⟨wipe_set, et_yes _ (iteT (hte i H' hi s1 _ fun l hl => ?_))⟩
    have nD : l ≠ D := fun z => by rw [z, gD] at hl; cases hl
    refine ⟨ls.map V.ref, by rw [upd_ne nD.symm]; exact gD, by rw [List.length_map, sizeLine_eq]; omega, same_newer (fun b o e => Same.new hl _ _ (s1 b o e)) hD, ls ++ [l], by rw [upd_same, List.map_append]; rfl, by rw [List.length_append, le]; rfl, fun a h => ?_⟩
    rcases List.mem_append.mp h with h | h
    · obtain ⟨n1, g1⟩ := ha a h
      exact ⟨n1, by rw [upd_ne n1]; exact Same.new hl _ _ g1⟩
    · obtain rfl := List.mem_singleton.mp h
      exact ⟨nD, by rw [upd_ne nD]; exact upd_same⟩) (fun D H' hD p => by
    obtain ⟨s1, ls, gD, le, ha⟩ := p
    exact q D ls H' s1 gD le fun a h => (ha a h).2)
theorem e_zeros {s : L2.St} {H : Hp} {tl te : TE} {k n : Nat} {Q : VK} (ht : Ev tl s H (.int n)) (hn : n ≤ 1000) (hte : ∀ (i : Nat) H', i < n → Same H H' → Ev te ((wipe s [k]).set k (some (.int i))) H' (.int 0))
    (q : ∀ D H', Same H H' → H' D = some (.lst (List.replicate n (V.int 0))) → Q (.ref D) H') : tLc (iRng1 (tCons tl tNil)) (gName k) tYes te [k] s H Q :=
  e_lcR ht (by omega) (fun D i H' => Same H H' ∧ H' D = some (.lst (List.replicate i (V.int 0)))) (fun D hD => ⟨Same.new hD, upd_same⟩) (fun D i H' hi hD p => by
    obtain ⟨s1, gD⟩ := p
    refine ⟨wipe_set, et_yes _ (iteT (hte i H' hi s1 _ ⟨_, gD, by rw [List.length_replicate, sizeLine_eq]; omega, same_newer s1 hD, ?_⟩))⟩
    rw [upd_same, List.replicate_succ']) (fun D H' hD p => q D H' p.1 p.2)
theorem dp_nils {K : PySem.W.Frag} {H : Hp} : ∀ {ls : List Addr}, (∀ a ∈ ls, H a = some (.lst [])) → DpAll K H (ls.map V.ref) (List.replicate ls.length (.list []))
  | [], _ => .nil
  | a :: ls, h => .cons (.lst (SqL.of (h a List.mem_cons_self)) .nil) (dp_nils fun b hb => h b (List.mem_cons_of_mem _ hb))
theorem dp_zeros {K : PySem.W.Frag} {H : Hp} : ∀ n : Nat, DpAll K H (List.replicate n (V.int 0)) (List.replicate n (.int 0))
  | 0 => .nil
  | n + 1 => .cons (.int _) (dp_zeros n)
theorem okD_nils (n : Nat) : okD 2 (.list (List.replicate n (.list []))) := okD_list fun x hx => by
  rw [List.eq_of_mem_replicate hx]
  exact okD_list fun y hy => by cases hy
theorem okD_zeros (n : Nat) : okD 1 (.list (List.replicate n (.int 0))) := okD_list fun x hx => by
  rw [List.eq_of_mem_replicate hx]
  exact okD_int _
theorem small_nils {n : Nat} (h : n ≤ 1000) : Small (.list (List.replicate n (.list []))) := .list (by rw [List.length_replicate]; omega) fun x hx => by
  rw [List.eq_of_mem_replicate hx]
  exact .list (Nat.zero_le _) fun y hy => by cases hy
theorem small_zeros {n : Nat} (h : n ≤ 1000) : Small (.list (List.replicate n (.int 0))) := .list (by rw [List.length_replicate]; omega) fun x hx => by
  rw [List.eq_of_mem_replicate hx]
  exact .int _
/-! ### rules that are none -/
def RxE (H : Hp) (v : V) (x : RX) : Prop := ∃ a, v = .ref a ∧ RXAt H a x
theorem mn_x : Mn RxE := fun _ _ _ _ s ⟨a, e, h⟩ => ⟨a, e, h.mono fun b xs e => s _ _ e⟩
def EvXs {α : Type} (E : Hp → V → α → Prop) (t : TA) (s : L2.St) (H : Hp) (xs : List α) : Prop := ∀ Q : List V → Hp → Prop, (∀ us H', Same H H' → All2 (E H') us xs → Q us H') → t s H Q
theorem evxs_nil {α : Type} {E : Hp → V → α → Prop} {s : L2.St} {H : Hp} : EvXs E tNil s H [] := fun Q q => q [] H (Same.refl H) .nil
theorem evxs_cons {α : Type} {E : Hp → V → α → Prop} {s : L2.St} {H : Hp} {te : TE} {ta : TA} {x : α} {xs : List α} (m : Mn E) (h : EvV E te s H x) (r : ∀ H', Same H H' → EvXs E ta s H' xs) : EvXs E (tCons te ta) s H (x :: xs) := fun Q q =>
  t_cons_of (h _ fun v H1 s1 e => r H1 s1 _ fun us H2 s2 a => q _ H2 (Same.trans s1 s2) (.cons (m _ _ _ _ s2 e) a))
theorem evx_disp {α : Type} {E : Hp → V → α → Prop} {s : L2.St} {H : Hp} {ta : TA} {xs : List α} (m : Mn E) (h : EvXs E ta s H xs) (le : xs.length ≤ 1000) : EvX E (tLst ta) s H xs := fun Q q =>
  t_lst_of (h _ fun us H1 s1 a => ⟨by rw [a.length, sizeLine_eq]; omega, fun p hp => q p us _ (Same.trans s1 (Same.new hp)) upd_same (a.mono fun _ _ h => m _ _ _ _ (Same.new hp) h)⟩)
theorem ev_one {s : L2.St} {H : Hp} {w : Str} : EvV RxE (tTup (tCons (tC (.str w)) tNil)) s H (.one w) := fun Q q => e_tup (ea_cons ev_c ea_nil) (by show 1 ≤ 1000; decide) fun p hp => q _ _ (Same.new hp) ⟨p, rfl, upd_same⟩
theorem ev_cnt {s : L2.St} {H : Hp} {w : Str} {te : TE} {i : Int} (h : Ev te s H (.int i)) : EvV RxE (tTup (tCons (tC (.str w)) (tCons te tNil))) s H (.cnt w i) := fun Q q => e_tup (ea_cons ev_c (ea_cons h ea_nil)) (by show 2 ≤ 1000; decide) fun p hp => q _ _ (Same.new hp) ⟨p, rfl, upd_same⟩
theorem ev_mrk {s : L2.St} {H : Hp} {tt : TE} {is : List Int} (h : ∀ R : VK, (∀ t H', Same H H' → H' t = some (.tup (is.map V.int)) → R (.ref t) H') → tt s H R) : EvV RxE (tTup (tCons (tC (.str "marks")) (tCons tt tNil))) s H (.mrk is) := fun Q q =>
  t_tup_of (t_cons_of (ev_c _ (t_cons_of (h _ fun t H1 s1 g => ⟨by show 2 ≤ sizeLine; decide, fun p hp => q _ _ (Same.trans s1 (Same.new hp)) ⟨p, rfl, t, upd_same, Same.new hp _ _ g⟩⟩))))
theorem ev_mrkT {s : L2.St} {H : Hp} {ta : TA} {is : List Int} (h : EvA ta s H (is.map V.int)) (le : is.length ≤ 1000) : EvV RxE (tTup (tCons (tC (.str "marks")) (tCons (tTup ta) tNil))) s H (.mrk is) := ev_mrk fun R r => e_tup h (by rw [List.length_map]; exact le) fun p hp => r p _ (Same.new hp) upd_same
/-- the first eleven, of so many hands -/
def none11 (n : Nat) : List RX := [.cnt "counts" 0, .cnt "counts" 16, .mrk [(n : Nat)], .mrk [-1], .mrk [0, 0], .cnt "keeps" 1] ++ [.mrk [((n : Nat) : Int) - 1, 0], .one "counts", .cnt "count" 1, .one "keep", .one "marks"]
def noneL (n : Nat) : RX := .mrk ((List.range n).map (fun i : Nat => (i : Int)) ++ [((n : Nat) : Int) - 1])
theorem none_bad {n : Nat} (h1 : 1 ≤ n) (h3 : n ≤ 3) : ∀ x ∈ none11 n ++ [noneL n], RxBad n x := fun x hx => by
  simp only [none11, List.cons_append, List.nil_append, List.mem_cons, List.not_mem_nil, or_false] at hx
  rcases hx with rfl | rfl | rfl | rfl | rfl | rfl | rfl | rfl | rfl | rfl | rfl | rfl
  · exact ⟨by decide +kernel, fun _ z => by omega, by decide +kernel⟩
  · exact ⟨by decide +kernel, fun _ z => by omega, by decide +kernel⟩
  · exact ⟨by show 1 ≤ 1000; decide, 0, _, rfl, .inl fun z => by have := z.2; omega⟩
  · exact ⟨by show 1 ≤ 1000; decide, 0, _, rfl, .inl fun z => by have := z.1; omega⟩
  · exact ⟨by show 2 ≤ 1000; decide, 1, _, rfl, .inr ⟨by omega, 0, rfl, by omega⟩⟩
  · exact ⟨by decide +kernel, fun z => absurd z (by decide +kernel), by decide +kernel⟩
  · exact ⟨by show 2 ≤ 1000; decide, 1, _, rfl, .inr ⟨by omega, _, rfl, by omega⟩⟩
  · exact ⟨by decide +kernel, by decide +kernel⟩
  · exact ⟨by decide +kernel, fun z => absurd z (by decide +kernel), by decide +kernel⟩
  · exact ⟨by decide +kernel, by decide +kernel⟩
  · exact ⟨by decide +kernel, by decide +kernel⟩
  · have l : ((List.range n).map (fun i : Nat => (i : Int))).length = n := by rw [List.length_map, List.length_range]
    refine ⟨by rw [List.length_append, l]; show n + 1 ≤ 1000; omega, n, ((n : Nat) : Int) - 1, ?_, .inr ⟨by omega, ((n - 1 : Nat) : Int), ?_, by omega⟩⟩
    · rw [List.getElem?_append_right (by omega), l, Nat.sub_self]
      rfl
    · rw [List.getElem?_append_left (by omega), List.getElem?_map, List.getElem?_range (by omega)]
      rfl
end SS

set_option Elab.async false
set_option linter.all false
set_option maxRecDepth 100000
set_option maxHeartbeats 4000000
/-! k02: lists of kept lambdas, and all of them asked. -/
namespace SS
open PySem L2 SX LamX
local macro_rules | `(tactic| walk_at "q") => `(tactic| ((try dsimp only); refine s_seq ?_))
abbrev fr3 : List Str := ["_law_values_here", "_law_programs_here", "_law_rule_here"]
def Made1 (mk1 : Nat → Addr → Addr → LF) (H : Hp) (i : Nat) (f : Addr) : Prop := ∃ (c' t : Addr) (tk : Tok), H f = some (LmO f (mk1 i c' t)) ∧ H c' = some (CodeO c' (mk1 i c' t).qual) ∧ H t = some (.frz (PySem.W.kdv_tup [.int 0 tk]) (.own 0))
theorem Made1.extN {mk1 : Nat → Addr → Addr → LF} {H H' : Hp} {i : Nat} {f : Addr} (h : Made1 mk1 H i f) (e : ExtN H H') : Made1 mk1 H' i f := let ⟨c', t, tk, a, b, g⟩ := h; ⟨c', t, tk, e _ _ a lmO_ne, e _ _ b codeO_ne, e _ _ g fun _ z => by cases z⟩
/-- what the walk of the lambdas shows -/
structure LamOk (P : Program) (w : World) (mg : Str → Option Value) (base : Heap) (Z : Cs) (c : Nat → Addr) (T : List (Addr × Str)) (L : Nat → LW) (cl : List (Str × Addr)) (sc : Scope) (N : List Str) (mk : Nat → Addr → LF) (mk1 : Nat → Addr → Addr → LF) : Prop where
  w3 : ∀ j, j < 4 → ∀ (H0 H1 : Hp) (f lv lp lr : Addr) (k : Kd), AllBad Z H0 lv lp lr k → ExtN H0 H1 → Kept3 H0 H1 (L j) fr3 [.ref lv, .ref lp, .ref lr] f → RunsK P w Z.K mg base 12 c k f H1
  l1 : ∀ i, i < 4 → ∀ (σ : L2.St) (H : Hp) (C : Cells) (f lv lp : Addr) (k : Kd), CellsZ cl sc N σ H C → Made1 mk1 H i f → σ[if i < 2 then 12 else 2]? = some (some (.ref lv)) → σ[8]? = some (some (.ref lp)) → VPBad Z H lv lp k → RunsK P w Z.K mg base 12 c k f (put C H)
  l0 : ∀ i, i < 5 → ∀ (σ : L2.St) (H : Hp) (C : Cells) (f d lv lp lr : Addr) (A : MA) (values : List Int) (ps : List (List Deed)) (r : Rule) (out : Int), CellsZ cl sc N σ H C → MadeAt (fun i => mk (4 + i)) H i f → D2 Z [] H d lv lp lr A values ps r →
    σ[2]? = some (some (.ref lv)) → σ[3]? = some (some (.ref lp)) → σ[5]? = some (some (.ref lr)) → σ[6]? = some (some (.ref A.p)) → σ[14]? = some (some (.int out)) → NoH ps.length out → RunsK P w Z.K mg base 12 c .hand f (put C H)
section
variable {P : Program} {w : World} {mg : Str → Option Value} {base : Heap} {Z : Cs} {c : Nat → Addr} {T : List (Addr × Str)} {L : Nat → LW} {cl : List (Str × Addr)} {sc : Scope} {N : List Str} {mk : Nat → Addr → LF} {mk1 : Nat → Addr → Addr → LF}
def Item (P : Program) (w : World) (mg : Str → Option Value) (base : Heap) (Z : Cs) (c : Nat → Addr) (cl : List (Str × Addr)) (sc : Scope) (N : List Str) (k : Kd) (cond : L2.St → Prop) (H : Hp) (f : Addr) : Prop :=
  ∀ H', ExtN H H' → ∀ (σ : L2.St) (C : Cells), cond σ → CellsZ cl sc N σ H' C → RunsK P w Z.K mg base 12 c k f (put C H')
theorem Item.extN {k : Kd} {cond : L2.St → Prop} {H H1 : Hp} {f : Addr} (i : Item P w mg base Z c cl sc N k cond H f) (e : ExtN H H1) : Item P w mg base Z c cl sc N k cond H1 f := fun H' e' => i H' (e.trans e')
theorem same_put {σ : L2.St} {H : Hp} {C : Cells} (CZ : CellsZ cl sc N σ H C) : Same H (put C H) := fun b u e => by
  refine (put_out ?_).trans e
  cases q : C b with
  | none => rfl
  | some o2 =>
    rw [CZ.new b o2 q] at e
    cases e
theorem item3 (ok : LamOk P w mg base Z c T L cl sc N mk mk1) {j : Nat} (hj : j < 4) {H0 H : Hp} {f lv lp lr : Addr} {k : Kd} {cond : L2.St → Prop} (bad : AllBad Z H0 lv lp lr k) (ex : ExtN H0 H) (kp : Kept3 H0 H (L j) fr3 [.ref lv, .ref lp, .ref lr] f) : Item P w mg base Z c cl sc N k cond H f := fun H' e σ C _ CZ =>
  (ok.w3 j hj H0 H' f lv lp lr k bad (ex.trans e) (kp.extN e)).later (same_put CZ)
theorem item1 (ok : LamOk P w mg base Z c T L cl sc N mk mk1) {i : Nat} (hi : i < 4) {H : Hp} {f lv lp : Addr} {k : Kd} {cond : L2.St → Prop} (bad : VPBad Z H lv lp k) (m : Made1 mk1 H i f) (hc : ∀ σ, cond σ → σ[if i < 2 then 12 else 2]? = some (some (V.ref lv)) ∧ σ[8]? = some (some (V.ref lp))) : Item P w mg base Z c cl sc N k cond H f := fun H' e σ C co CZ =>
  ok.l1 i hi σ H' C f lv lp k CZ (m.extN e) (hc σ co).1 (hc σ co).2 (bad.extN e)
theorem word_pile (n : Nat) : (Kd.pile n).word = "pile" := rfl
theorem word_deed (h n : Nat) : (Kd.deed h n).word = "deed" := rfl
theorem word_rule : Kd.rule.word = "rule" := rfl
theorem word_hand : Kd.hand.word = "hand" := rfl
/-- all are asked -/
theorem ask_v {s : L2.St} {H : Hp} {tw : TE} {ta : TA} {k : Kd} {wd : Str} (ew : k.word = wd) {cond : L2.St → Prop} (co : cond s) (hw : ∀ R : VK, (∀ lw (fs : List Addr) H1, ExtN H H1 → Tabs T H1 → H1 lw = some (.lst (fs.map V.ref)) → fs.length ≤ 1000 → (∀ f ∈ fs, Item P w mg base Z c cl sc N k cond H1 f) → R (.ref lw) H1) → tw s H R)
    (hd : ∀ H', ExtN H H' → EvA ta s H' (k.args.map V.int)) (Q : VK) (q : ∀ H', ExtN H H' → Tabs T H' → Q (.bl true) H') : tCallF cl sc N (sp_L_all P w mg base 12 Z c) E0 (tCons tw (tCons (tLst (tCons (tC (.str wd)) (tCons (tLst ta) tNil))) tNil)) s H Q := by
  subst ew
  unfold tCallF
  refine t_cons_of (hw _ fun lw fs H1 ex tb g le run => t_cons_of (t_lst_of (t_cons_of (ev_c _ (t_cons_of (e_lst (hd H1 ex) (by rw [List.length_map]; have := args_few k; omega) fun l2 hl2 => ⟨by show 2 ≤ sizeLine; decide, fun ld hld => ?_⟩))))))
  have s2 : Same H1 (upd H1 l2 (.lst (k.args.map V.int))) := Same.new hl2
  have g2 : (upd H1 l2 (.lst (k.args.map V.int))) l2 = some (.lst (k.args.map V.int)) := upd_same
  generalize upd H1 l2 (.lst (k.args.map V.int)) = H2 at s2 g2 hld ⊢
  have s3 : Same H2 (upd H2 ld (.lst [.str k.word, .ref l2])) := Same.new hld
  have g3 : (upd H2 ld (.lst [.str k.word, .ref l2])) ld = some (.lst [.str k.word, .ref l2]) := upd_same
  generalize upd H2 ld (.lst [.str k.word, .ref l2]) = H3 at s3 g3 ⊢
  have s13 := Same.trans s2 s3
  intro C CZ
  have sp := same_put CZ
  refine ⟨lw, ld, l2, fs, k, rfl, sp _ _ (s13 _ _ g), le, fun f hf => run f hf H3 (same_extN s13) s C co CZ, sp _ _ g3, sp _ _ (s3 _ _ g2), fun H' s' => ?_⟩
  have up : ∀ b o, H3 b = some o → cut C H' b = some o := fun b o e => by
    refine (cut_out ?_).trans (s' _ _ (sp _ _ e))
    cases z : C b with
    | none => rfl
    | some o2 =>
      rw [CZ.new b o2 z] at e
      cases e
  exact q _ (fun b o e n => up _ _ (s13 _ _ (ex b o e n))) (tb.ext fun b o e => up _ _ (s13 _ _ e))
/-- works(..) -/
theorem works_v (ok : LamOk P w mg base Z c T L cl sc N mk mk1) {s : L2.St} {H : Hp} {a b e : Nat} {lv lp lr : Addr} {k : Kd} {cond : L2.St → Prop} (ha : s[a]? = some (some (.ref lv))) (hb : s[b]? = some (some (.ref lp))) (he : s[e]? = some (some (.ref lr))) (bad : AllBad Z H lv lp lr k) (tb : Tabs T H) (R : VK)
    (r : ∀ lw (fs : List Addr) H1, ExtN H H1 → Tabs T H1 → H1 lw = some (.lst (fs.map V.ref)) → fs.length ≤ 1000 → fs.length = 4 → (∀ f ∈ fs, Item P w mg base Z c cl sc N k cond H1 f) → R (.ref lw) H1) : tCall (sp_L_works T L fr3) [] E0 (tCons (tVar a) (tCons (tVar b) (tCons (tVar e) tNil))) s H R := by
  refine t_call_of (ea_cons (ev_var ha) (ea_cons (ev_var hb) (ea_cons (ev_var he) ea_nil)) _ ⟨.ref lv, .ref lp, .ref lr, rfl, tb, fun l f1 f2 f3 f4 H1 ex tb1 g k1 k2 k3 k4 => ?_⟩)
  refine r l [f1, f2, f3, f4] H1 ex tb1 g (by show 4 ≤ 1000; decide) rfl fun f hf => ?_
  simp only [List.mem_cons, List.not_mem_nil, or_false] at hf
  rcases hf with rfl | rfl | rfl | rfl
  · exact item3 ok (j := 0) (by decide) bad ex k1
  · exact item3 ok (j := 1) (by decide) bad ex k2
  · exact item3 ok (j := 2) (by decide) bad ex k3
  · exact item3 ok (j := 3) (by decide) bad ex k4
/-- .. + [two of the law's own] -/
theorem more_v (ok : LamOk P w mg base Z c T L cl sc N mk mk1) {s : L2.St} {H : Hp} {tw : TE} {i j : Nat} (hi : i < 4) (hj : j < 4) {lv lp : Addr} {k : Kd} {cond : L2.St → Prop} (bad : VPBad Z H lv lp k) (hci : ∀ σ, cond σ → σ[if i < 2 then 12 else 2]? = some (some (V.ref lv)) ∧ σ[8]? = some (some (V.ref lp)))
    (hcj : ∀ σ, cond σ → σ[if j < 2 then 12 else 2]? = some (some (V.ref lv)) ∧ σ[8]? = some (some (V.ref lp)))
    (hw : ∀ R : VK, (∀ lw (fs : List Addr) H1, ExtN H H1 → Tabs T H1 → H1 lw = some (.lst (fs.map V.ref)) → fs.length ≤ 1000 → fs.length = 4 → (∀ f ∈ fs, Item P w mg base Z c cl sc N k cond H1 f) → R (.ref lw) H1) → tw s H R) (R : VK)
    (r : ∀ lw (fs : List Addr) H1, ExtN H H1 → Tabs T H1 → H1 lw = some (.lst (fs.map V.ref)) → fs.length ≤ 1000 → (∀ f ∈ fs, Item P w mg base Z c cl sc N k cond H1 f) → R (.ref lw) H1) : tOp rCat tw (tLst (tCons (tLam1 T 0 (mk1 i)) (tCons (tLam1 T 0 (mk1 j)) tNil))) s H R := by
  refine t_op_of (hw _ fun lw fs H1 ex tb g le l4 it => t_lst_of (t_cons_of ⟨tb, fun f5 c5 t5 tk5 H2 ex2 nn2 tb2 a5 b5 d5 => t_cons_of ⟨tb2, fun f6 c6 t6 tk6 H3 ex3 nn3 tb3 a6 b6 d6 => ⟨by show 2 ≤ sizeLine; decide, fun p hp => ?_⟩⟩⟩))
  have s4 : Same H3 (upd H3 p (.lst [.ref f5, .ref f6])) := Same.new hp
  have g4 : (upd H3 p (.lst [V.ref f5, .ref f6])) p = some (.lst [.ref f5, .ref f6]) := upd_same
  generalize upd H3 p (.lst [V.ref f5, .ref f6]) = H4 at s4 g4 ⊢
  have e14 : ExtN H1 H4 := (ex2.trans ex3).trans (same_extN s4)
  have m5 : Made1 mk1 H4 i f5 := Made1.extN ⟨c5, t5, tk5, a5, b5, d5⟩ (ex3.trans (same_extN s4))
  have m6 : Made1 mk1 H4 j f6 := Made1.extN ⟨c6, t6, tk6, a6, b6, d6⟩ (same_extN s4)
  refine ⟨lw, p, _, _, rfl, rfl, e14 _ _ g (fun _ z => by cases z), g4, by rw [List.length_map, l4]; show 4 + 2 ≤ sizeLine; decide, fun p2 hp2 => ?_⟩
  have s5 : Same H4 (upd H4 p2 (.lst (fs.map V.ref ++ [.ref f5, .ref f6]))) := Same.new hp2
  have e5 := e14.trans (same_extN s5)
  refine r p2 (fs ++ [f5, f6]) _ (ex.trans e5) ((tb3.ext s4).ext s5) (by rw [upd_same, List.map_append]; rfl) (by rw [List.length_append, l4]; show 4 + 2 ≤ 1000; decide) fun f hf => ?_
  rcases List.mem_append.mp hf with hf | hf
  · exact (it f hf).extN e5
  · simp only [List.mem_cons, List.not_mem_nil, or_false] at hf
    have badN := bad.extN (ex.trans e5)
    rcases hf with rfl | rfl
    · exact item1 ok hi badN (m5.extN (same_extN s5)) hci
    · exact item1 ok hj badN (m6.extN (same_extN s5)) hcj
end
end SS

set_option Elab.async false
set_option linter.all false
set_option maxRecDepth 100000
set_option maxHeartbeats 4000000
/-! k02: the law. -/
namespace SS
open PySem L2 SX LamX
local macro_rules | `(tactic| walk_at "q") => `(tactic| ((try dsimp only); refine s_seq ?_))
def sp_law2 (Z : Cs) (T : List (Addr × Str)) : Sp := fun vs H Q _ => ∃ (sc : Addr) (ns : List Int), vs = [.ref sc] ∧ ScrAt Z.K H sc (ns.map V.int) ∧ ns.length ≤ 63 ∧ Tabs T H ∧ ∀ H', Q (.bl true) H'
def t_hand2 (P : Program) (w : World) (mg : Str → Option Value) (base : Heap) (Z : Cs) (c : Nat → Addr) (T : List (Addr × Str)) (L : Nat → LW) (cl : List (Str × Addr)) (sc : Scope) (N : List Str) (mk : Nat → Addr → LF) (mk1 : Nat → Addr → Addr → LF) : TS :=
    (tSeq (tAsg (tOp (rIxL Z.K) (tLst (tCons (tUn rNegI (tC (.int 1))) (tCons (tVar 4) (tCons (tOp rPowI (tC (.int 10)) (tC (.int 9))) tNil)))) (tCall (sp_L_next Z) [] E0 (tCons (tVar 1) (tCons (tC (.int 3)) tNil)))) (gName 14))
    (tSeq (tAsg (tLst (tCons (tLam0 T (mk 4)) tNil)) (gName 13))
    (tSeq (tDrop (tBM Z.K "list" rAppend (tVar 13) (tCons (tLam0 T (mk 5)) tNil)))
    (tSeq (tDrop (tBM Z.K "list" rAppend (tVar 13) (tCons (tLam0 T (mk 6)) tNil)))
    (tSeq (tDrop (tBM Z.K "list" rAppend (tVar 13) (tCons (tLam0 T (mk 7)) tNil)))
    (tSeq (tDrop (tBM Z.K "list" rAppend (tVar 13) (tCons (tLam0 T (mk 8)) tNil)))
    ((tRet (tCallF cl sc N (sp_L_all P w mg base 12 Z c) E0 (tCons (tVar 13) (tCons (tLst (tCons (tC (.str "hand")) (tCons (tLst tNil) tNil))) tNil)))))))))))
def t_pile2 (P : Program) (w : World) (mg : Str → Option Value) (base : Heap) (Z : Cs) (c : Nat → Addr) (T : List (Addr × Str)) (L : Nat → LW) (cl : List (Str × Addr)) (sc : Scope) (N : List Str) (mk : Nat → Addr → LF) (mk1 : Nat → Addr → Addr → LF) : TS :=
        (tSeq (tAsg (tOp rCat (tCall (sp_L_works T L fr3) [] E0 (tCons (tVar 12) (tCons (tVar 8) (tCons (tVar 11) tNil)))) (tLst (tCons (tLam1 T 0 (mk1 0)) (tCons (tLam1 T 0 (mk1 1)) tNil)))) (gName 13))
    (tSeq (tIfS (tNot (tB (tCallF cl sc N (sp_L_all P w mg base 12 Z c) E0 (tCons (tVar 13) (tCons (tLst (tCons (tC (.str "pile")) (tCons (tLst (tCons (tCB rMin2 (tCons (tC (.int 3)) (tCons (tCB (rLen1 Z.K) (tCons (tVar 2) tNil)) tNil))) tNil)) tNil))) tNil))))) ((tRet (tC (.bl false)))) (tNext))
    (tSeq (tAsg (tCall (sp_L_works T L fr3) [] E0 (tCons (tVar 2) (tCons (tVar 8) (tCons (tVar 11) tNil)))) (gName 13))
    (tSeq (tAsg (tOp rCat (tVar 13) (tLst (tCons (tLam1 T 0 (mk1 2)) (tCons (tLam1 T 0 (mk1 3)) tNil)))) (gName 13))
    (tSeq (tIfS (tNot (tB (tCallF cl sc N (sp_L_all P w mg base 12 Z c) E0 (tCons (tVar 13) (tCons (tLst (tCons (tC (.str "deed")) (tCons (tLst (tCons (tVar 7) (tCons (tVar 9) tNil))) tNil))) tNil))))) ((tRet (tC (.bl false)))) (tNext))
    (tSeq (tIfS (tNot (tB (tCallF cl sc N (sp_L_all P w mg base 12 Z c) E0 (tCons (tCall (sp_L_works T L fr3) [] E0 (tCons (tVar 2) (tCons (tVar 3) (tCons (tVar 11) tNil)))) (tCons (tLst (tCons (tC (.str "rule")) (tCons (tLst tNil) tNil))) tNil))))) ((tRet (tC (.bl false)))) (tNext))
    (t_hand2 P w mg base Z c T L cl sc N mk mk1)))))))
/-- law: 0 _law_script, 1 _law_d, 2 _law_values_here, 3 _law_programs_here, 4 _law_many, 5 _law_rule_here, 6 _law_machine, 7 _law_hand, 8 _law_rows, 9 _law_number, 10 _law_none, 11 _law_odd, 12 _law_bad_here, 13 _law_works_here, 14 _law_out -/
def t_law2 (P : Program) (w : World) (mg : Str → Option Value) (base : Heap) (Z : Cs) (c : Nat → Addr) (T : List (Addr × Str)) (L : Nat → LW) (cl : List (Str × Addr)) (sc : Scope) (N : List Str) (mk : Nat → Addr → LF) (mk1 : Nat → Addr → Addr → LF) : TS :=
  tSeq (tAsg (tCall (sp_L_dice Z) [] E0 (tCons (tVar 0) tNil)) (gName 1))
    (tSeq (tAsg (tCall (sp_L_values Z) [] E0 (tCons (tVar 1) (tCons (tC (.int 6)) tNil))) (gName 2))
    (tSeq (tAsg (tCall (sp_L_programs Z) [] E0 (tCons (tVar 1) (tCons (tC (.int 3)) (tCons (tC (.int 4)) tNil)))) (gName 3))
    (tSeq (tAsg (tCB (rLen1 Z.K) (tCons (tVar 3) tNil)) (gName 4))
    (tSeq (tAsg (tCall (sp_L_rule Z) [] E0 (tCons (tVar 1) (tCons (tVar 4) tNil))) (gName 5))
    (tSeq (tAsg (tMake Z.M (sp_M_init Z) [] E0 (tCons (tVar 2) (tCons (tVar 3) (tCons (tVar 5) tNil)))) (gName 6))
    (tSeq (tIfS (tNot (tB (tCall (sp_L_like Z 6) [] E0 (tCons (tLc (iRng1 (tCons (tVar 4) tNil)) (gName 7) tYes (tMeth Z.M "answers" (sp_M_answers Z) [] E0 (tVar 6) (tCons (tVar 7) tNil)) [7]) (tCons (tLc (iRng1 (tCons (tVar 4) tNil)) (gName 7) tYes (tLst tNil) [7]) tNil))))) ((tRet (tC (.bl false)))) (tNext))
    (tSeq (tIfS ((tOr (tNot (tB (tCall (sp_L_like Z 6) [] E0 (tCons (tLc (iRng1 (tCons (tVar 4) tNil)) (gName 7) tYes (tMeth Z.M "marked" (sp_M_marked Z) [] E0 (tVar 6) (tCons (tVar 7) tNil)) [7]) (tCons (tOp rRep (tLst (tCons (tC (.int 0)) tNil)) (tVar 4)) tNil))))) (tTest (tOp (rNeD Z.K) (tMeth Z.M "order" (sp_M_order Z) [] E0 (tVar 6) tNil) (tLst tNil))))) ((tRet (tC (.bl false)))) (tNext))
    (tSeq (tAsg (tCall (sp_L_badZ Z) [] E0 (tCons (tVar 1) (tCons (tVar 3) tNil))) (gTup Z.K 3 (gCons (gName 8) (gCons (gName 7) (gCons (gName 9) gNil)))))
    (tSeq (tAsg (tLst (tCons (tTup (tCons (tC (.str "counts")) (tCons (tC (.int 0)) tNil))) (tCons (tTup (tCons (tC (.str "counts")) (tCons (tC (.int 16)) tNil))) (tCons (tTup (tCons (tC (.str "marks")) (tCons (tTup (tCons (tVar 4) tNil)) tNil))) (tCons (tTup (tCons (tC (.str "marks")) (tCons (tTup (tCons (tUn rNegI (tC (.int 1))) tNil)) tNil))) (tCons (tTup (tCons (tC (.str "marks")) (tCons (tTup (tCons (tC (.int 0)) (tCons (tC (.int 0)) tNil))) tNil))) (tCons (tTup (tCons (tC (.str "keeps")) (tCons (tC (.int 1)) tNil))) tNil))))))) (gName 10))
    (tSeq (tAsg (tOp rCat (tVar 10) (tLst (tCons (tTup (tCons (tC (.str "marks")) (tCons (tTup (tCons (tOp rSubI (tVar 4) (tC (.int 1))) (tCons (tC (.int 0)) tNil))) tNil))) (tCons (tTup (tCons (tC (.str "counts")) tNil)) (tCons (tTup (tCons (tC (.str "count")) (tCons (tC (.int 1)) tNil))) (tCons (tTup (tCons (tC (.str "keep")) tNil)) (tCons (tTup (tCons (tC (.str "marks")) tNil)) tNil))))))) (gName 10))
    (tSeq (tDrop (tBM Z.K "list" rAppend (tVar 10) (tCons (tTup (tCons (tC (.str "marks")) (tCons (tOp (rCatA Z.K) (tTupRg (tRg1 (tVar 4))) (tTup (tCons (tOp rSubI (tVar 4) (tC (.int 1))) tNil))) tNil))) tNil)))
    (tSeq (tAsg (tOp (rIxL Z.K) (tVar 10) (tCall (sp_L_next Z) [] E0 (tCons (tVar 1) (tCons (tCB (rLen1 Z.K) (tCons (tVar 10) tNil)) tNil)))) (gName 11))
    (tSeq (tAsg (tOp rCat (tOp rCat (tSl (rSlL Z.K) (tVar 2) tNoPart (tPart (tC (.int 3)))) (tLst (tCons (tC (.int 100)) tNil))) (tSl (rSlL Z.K) (tVar 2) (tPart (tC (.int 3))) (tPart (tC (.int 4))))) (gName 12))
    (t_pile2 P w mg base Z c T L cl sc N mk mk1))))))))))))))
theorem e_trg2 {te : TE} {s : L2.St} {H : Hp} {Q : VK} {n : Nat} (h : Ev te s H (.int (n : Int))) (hn : n ≤ 1000) (q : ∀ p, H p = none → Q (.ref p) (upd H p (.tup ((List.range n).map natV)))) : tTupRg (tRg1 te) s H Q :=
  h _ ⟨_, rfl, .of_le (by omega) (by omega) (by omega) (by omega), fun p hp => by rw [rgV_nat]; exact q p hp⟩
theorem evx_catN {α : Type} {E : Hp → V → α → Prop} {s : L2.St} {H : Hp} {ta tb : TE} {xs ys : List α} (m : Mn E) (ha : EvX E ta s H xs) (hb : ∀ H', Same H H' → EvX E tb s H' ys) (l1 : xs.length ≤ 1000) (l2 : ys.length ≤ 1000) (Q : VK)
    (q : ∀ l us H', H l = none → Same H H' → H' l = some (.lst us) → All2 (E H') us (xs ++ ys) → Q (.ref l) H') : tOp rCat ta tb s H Q :=
  t_op_of (ha _ fun l us H1 s1 g1 a1 => hb H1 s1 _ fun b zs H2 s2 g2 a2 => ⟨l, b, us, zs, rfl, rfl, s2 _ _ g1, g2, by rw [a1.length, a2.length, sizeLine_eq]; omega, fun p hp => by
    have s3 : Same H2 (upd H2 p (.lst (us ++ zs))) := Same.new hp
    exact q p _ _ (free_of (Same.trans s1 s2) hp) (Same.trans s1 (Same.trans s2 s3)) upd_same (all2_cat1 (a1.mono fun _ _ h => m _ _ _ _ (Same.trans s2 s3) h) (a2.mono fun _ _ h => m _ _ _ _ s3 h))⟩)
def IntE (_ : Hp) (v : V) (i : Int) : Prop := v = .int i
theorem mn_i : Mn IntE := fun _ _ _ _ _ h => h
theorem ints_of {H : Hp} : ∀ {us : List V} {ns : List Int}, All2 (IntE H) us ns → us = ns.map V.int
  | _, _, .nil => rfl
  | _, _, .cons a b => by rw [show _ = _ from a, ints_of b]; rfl
theorem of_ints {H : Hp} : ∀ ns : List Int, All2 (IntE H) (ns.map V.int) ns
  | [] => .nil
  | a :: l => .cons rfl (of_ints l)
theorem begin_hd2 (values : List Int) (ps : List (List Deed)) (r : Rule) (j : Nat) : (M.begin_ values ps r).hd j = {} := by
  show (ps.map fun _ => ({} : Hd)).getD j {} = {}
  rw [List.getD_eq_getElem?_getD, List.getElem?_map]
  cases ps[j]? <;> rfl
theorem cut_two {xs : List V} : ∃ a b : Nat, cutV xs (some 3) (some 4) = (xs.drop a).take b ∧ b ≤ 1 := by
  have e1 : HT.sIx xs.length 0 (some (3 : Int)) = min 3 xs.length := HT.sIx_nat _ 0 3
  have e2 : HT.sIx xs.length xs.length (some (4 : Int)) = min 4 xs.length := HT.sIx_nat _ _ 4
  refine ⟨_, _, rfl, ?_⟩
  rw [e1, e2]
  omega
theorem bad_vals {values zs : List Int} (ov : ∀ v ∈ values, okVal v) (hz : zs.length ≤ 1) : ValBad (values.take 3 ++ [100] ++ zs) (min 3 values.length) := by
  have l : (values.take 3).length = min 3 values.length := List.length_take
  refine .inr ⟨?_, ⟨100, ?_, fun h => by have : (100 : Int) ≤ 99 := h.2; omega⟩, fun j v hj hv => ?_⟩
  · rw [List.length_append, List.length_append, l]
    show min 3 values.length + 1 + zs.length ≤ 6
    omega
  · rw [List.append_assoc, List.getElem?_append_right (by omega), l, Nat.sub_self]
    rfl
  · rw [List.append_assoc, List.getElem?_append_left (by omega)] at hv
    exact ov v (List.mem_of_mem_take (List.mem_of_getElem? hv))
section
variable {P : Program} {w : World} {mg : Str → Option Value} {base : Heap} {Z : Cs} {c : Nat → Addr} {T : List (Addr × Str)} {L : Nat → LW} {cl : List (Str × Addr)} {sc0 : Scope} {N : List Str} {mk : Nat → Addr → LF} {mk1 : Nat → Addr → Addr → LF}
theorem hand2 (lam : LamOk P w mg base Z c T L cl sc0 N mk mk1) {sc d lv lp lr lrow lo lb : Addr} {A : MA} {values : List Int} {ps : List (List Deed)} {r : Rule} {hh nn : Nat} {w10 w13 w14 : Option V} {nx bk ct : L2.St → Hp → Prop} {Q : VK} {H : Hp} (DZ : D2 Z T H d lv lp lr A values ps r) (l3 : ps.length ≤ 3) (q : ∀ H', Q (.bl true) H') :
    t_hand2 P w mg base Z c T L cl sc0 N mk mk1 { nx := nx, rt := Q, bk := bk, ct := ct } [some (.ref sc), some (.ref d), some (.ref lv), some (.ref lp), some (.int (ps.length : Nat)), some (.ref lr), some (.ref A.p), some (.int (hh : Nat)), some (.ref lrow), some (.int (nn : Nat)), w10, some (.ref lo), some (.ref lb), w13, w14] H := by
  unfold t_hand2
  -- hands that there aren't
  walk_at "q"
  refine s_asg_of (t_op_of (e_lst (ea_cons (ev_neg ev_c) (ea_cons (ev_var (v := .int (ps.length : Nat)) rfl) (ea_cons (ev_pow ev_c ev_c ⟨by decide, by decide, by decide⟩) ea_nil))) (by show 3 ≤ 1000; decide) fun p hp => ?_))
  have s25 : Same H (upd H p (.lst [.int (-1), .int (ps.length : Nat), .int (10 ^ (9 : Int).toNat)])) := Same.new hp
  have g25 : (upd H p (.lst [V.int (-1), .int (ps.length : Nat), .int (10 ^ (9 : Int).toNat)])) p = some (.lst [.int (-1), .int (ps.length : Nat), .int (10 ^ (9 : Int).toNat)]) := upd_same
  have D25 := DZ.same s25
  have pd : p ≠ d := DZ.x.ne hp
  generalize upd H p (.lst [V.int (-1), .int (ps.length : Nat), .int (10 ^ (9 : Int).toNat)]) = H25 at s25 g25 D25 ⊢
  refine s_next (d := d) rfl D25.x (m := 3) (ev_N 3 rfl) (by decide) (by decide) fun y H26 hy c26 x26 => ?_
  obtain ⟨out, hout, no⟩ : ∃ out : Int, [V.int (-1), V.int (ps.length : Nat), V.int (10 ^ (9 : Int).toNat)][y]? = some (.int out) ∧ NoH ps.length out := by
    match y, hy with
    | 0, _ => exact ⟨-1, rfl, .inl (by omega)⟩
    | 1, _ => exact ⟨_, rfl, .inr (Int.le_refl _)⟩
    | 2, _ => exact ⟨_, rfl, .inr (by show ((ps.length : Nat) : Int) ≤ 10 ^ 9; omega)⟩
  refine ⟨p, _, _, _, rfl, rfl, SqL.of (c26.ne g25 pd), atI_nat hout, ?_⟩
  show ({ nx := _, rt := Q, bk := bk, ct := ct : Ends }).nx _ _
  have D26 := D25.dice c26 x26
  walk_at "q"
  refine s_asg_of (t_lst_of (t_cons_of ⟨D26.t, fun f1 c1 H27 ex nn27 tb27 n1 a1 b1 => ⟨by show 1 ≤ sizeLine; decide, fun l hl1 => ?_⟩⟩))
  have hl0 : H26 l = none := nn27 l hl1
  have st : WkSt T (fun i => mk (4 + i)) H26 (upd H27 l (.lst [.ref f1])) l [f1] := ⟨extN_new ex hl0, tb27.ext (fun b o e => (upd_ne (ne_of_none e hl1)).trans e), upd_same, hl0, fun i f hf => by
    cases i with
    | zero =>
      cases hf
      exact MadeAt.extN (mk := fun i => mk (4 + i)) ⟨c1, a1, b1⟩ (extN_new (ExtN.refl H27) hl1)
    | succ i => simp at hf⟩
  show ({ nx := _, rt := Q, bk := bk, ct := ct : Ends }).nx _ _
  generalize upd H27 l (.lst [.ref f1]) = H28 at st ⊢
  walk_at "q"
  refine wk_step (mk := fun i => mk (4 + i)) (n := 1) st rfl (by decide) rfl fun H29 f2 st2 => ?_
  show ({ nx := _, rt := Q, bk := bk, ct := ct : Ends }).nx _ _
  walk_at "q"
  refine wk_step (mk := fun i => mk (4 + i)) (n := 2) st2 rfl (by decide) rfl fun H30 f3 st3 => ?_
  show ({ nx := _, rt := Q, bk := bk, ct := ct : Ends }).nx _ _
  walk_at "q"
  refine wk_step (mk := fun i => mk (4 + i)) (n := 3) st3 rfl (by decide) rfl fun H31 f4 st4 => ?_
  show ({ nx := _, rt := Q, bk := bk, ct := ct : Ends }).nx _ _
  walk_at "q"
  refine wk_step (mk := fun i => mk (4 + i)) (n := 4) st4 rfl (by decide) rfl fun H32 f5 st5 => ?_
  show ({ nx := _, rt := Q, bk := bk, ct := ct : Ends }).nx _ _
  have D32 : D2 Z [] H32 d lv lp lr A values ps r := by
    have D := D26.extN st5.ex st5.tb
    exact ⟨D.x, D.v, D.p, D.ru, D.M, D.ok, D.nv, D.nA, fun p hp => absurd hp (by simp)⟩
  refine s_ret_of (ask_v (T := T) word_hand (cond := fun σ => σ[2]? = some (some (V.ref lv)) ∧ σ[3]? = some (some (V.ref lp)) ∧ σ[5]? = some (some (V.ref lr)) ∧ σ[6]? = some (some (V.ref A.p)) ∧ σ[14]? = some (some (V.int out))) ⟨rfl, rfl, rfl, rfl, rfl⟩ (fun R rr => ev_var (v := .ref l) rfl _ (rr l [f1, f2, f3, f4, f5] H32 (ExtN.refl _) st5.tb st5.at_ (by show 5 ≤ 1000; decide) fun f hf => ?_)) (fun _ _ => ea_nil) _ fun H' _ _ => q H')
  obtain ⟨i, hi⟩ := List.mem_iff_getElem?.mp hf
  have il : i < 5 := (List.getElem?_eq_some_iff.mp hi).1
  have m := st5.fs i f hi
  intro H' e σ C co CZ
  exact lam.l0 i il σ H' C f d lv lp lr A values ps r out CZ (m.extN e) (D32.extN e fun p hp => absurd hp (by simp)) co.1 co.2.1 co.2.2.1 co.2.2.2.1 co.2.2.2.2 no
theorem pile2 (lam : LamOk P w mg base Z c T L cl sc0 N mk mk1) {sc d lv lp lr lrow lo lb : Addr} {A : MA} {values : List Int} {ps : List (List Deed)} {r : Rule} {hh nn : Nat} {w10 w13 w14 : Option V} {nx bk ct : L2.St → Hp → Prop} {Q : VK} {H : Hp} (DZ : D2 Z T H d lv lp lr A values ps r) (l3 : ps.length ≤ 3) (pileB : VPBad Z H lb lrow (.pile (min 3 values.length))) (deedB : VPBad Z H lv lrow (.deed hh nn)) (ruleB : RBad Z H lv lp lo .rule) (q : ∀ H', Q (.bl true) H') :
    t_pile2 P w mg base Z c T L cl sc0 N mk mk1 { nx := nx, rt := Q, bk := bk, ct := ct } [some (.ref sc), some (.ref d), some (.ref lv), some (.ref lp), some (.int (ps.length : Nat)), some (.ref lr), some (.ref A.p), some (.int (hh : Nat)), some (.ref lrow), some (.int (nn : Nat)), w10, some (.ref lo), some (.ref lb), w13, w14] H := by
  unfold t_pile2
  -- values refused ahead of all
  walk_at "q"
  refine s_asg_of (more_v lam (i := 0) (j := 1) (by decide) (by decide) (cond := fun σ => σ[12]? = some (some (V.ref lb)) ∧ σ[8]? = some (some (V.ref lrow))) pileB (fun σ h => h) (fun σ h => h) (fun R rr => works_v lam (lv := lb) (lp := lrow) (lr := lo) rfl rfl rfl (.inl pileB) DZ.t R rr) _ fun lw1 fs1 H19 e19 t19 g19 z19 i19 => ?_)
  show ({ nx := _, rt := Q, bk := bk, ct := ct : Ends }).nx _ _
  have D19 := DZ.extN e19 t19
  have deedB19 := deedB.extN e19
  have ruleB19 := ruleB.extN e19
  walk_at "q"
  refine s_if_of (t_notZ (t_B_of (ask_v (word_pile (min 3 values.length)) (cond := fun σ => σ[12]? = some (some (V.ref lb)) ∧ σ[8]? = some (some (V.ref lrow))) ⟨rfl, rfl⟩ (fun R rr => ev_var (v := .ref lw1) rfl _ (rr lw1 fs1 H19 (ExtN.refl _) t19 g19 z19 i19)) (fun H' e => ?_) _ fun H20 e20 t20 => ⟨true, rfl, iteF ?_⟩)))
  · have gv := e _ _ D19.v fun _ z => by cases z
    refine ea_cons (fun R rr => ea_cons ev_c (ea_cons (ev_is (ev_lenL (ev_var (v := .ref lv) rfl) (SqL.of gv)) (by rw [List.length_map])) ea_nil) _ ⟨3, (values.length : Nat), rfl, ?_⟩) ea_nil
    have em : (if ((values.length : Nat) : Int) < 3 then ((values.length : Nat) : Int) else 3) = ((min 3 values.length : Nat) : Int) := by
      split <;> omega
    rw [em]
    exact rr
  dsimp only [tNext]
  have D20 := D19.extN e20 t20
  have deedB20 := deedB19.extN e20
  have ruleB20 := ruleB19.extN e20
  clear D19 deedB19 ruleB19 e20 g19 z19 i19 t19
  -- deeds refused ahead of the rule
  walk_at "q"
  refine s_asg_of (works_v lam (lv := lv) (lp := lrow) (lr := lo) (cond := fun σ => σ[2]? = some (some (V.ref lv)) ∧ σ[8]? = some (some (V.ref lrow))) rfl rfl rfl (.inl deedB20) t20 _ fun lw2 fs2 H21 e21 t21 g21 z21 l21 i21 => ?_)
  show ({ nx := _, rt := Q, bk := bk, ct := ct : Ends }).nx _ _
  have D21 := D20.extN e21 t21
  have deedB21 := deedB20.extN e21
  have ruleB21 := ruleB20.extN e21
  clear D20 deedB20 ruleB20 e21 t20
  walk_at "q"
  refine s_asg_of (more_v lam (i := 2) (j := 3) (by decide) (by decide) (cond := fun σ => σ[2]? = some (some (V.ref lv)) ∧ σ[8]? = some (some (V.ref lrow))) deedB21 (fun σ h => h) (fun σ h => h) (fun R rr => ev_var (v := .ref lw2) rfl _ (rr lw2 fs2 H21 (ExtN.refl _) t21 g21 z21 l21 i21)) _ fun lw3 fs3 H22 e22 t22 g22 z22 i22 => ?_)
  show ({ nx := _, rt := Q, bk := bk, ct := ct : Ends }).nx _ _
  have D22 := D21.extN e22 t22
  have ruleB22 := ruleB21.extN e22
  clear D21 deedB21 ruleB21 e22 t21 g21 z21 l21 i21
  walk_at "q"
  refine s_if_of (t_notZ (t_B_of (ask_v (word_deed hh nn) (cond := fun σ => σ[2]? = some (some (V.ref lv)) ∧ σ[8]? = some (some (V.ref lrow))) ⟨rfl, rfl⟩ (fun R rr => ev_var (v := .ref lw3) rfl _ (rr lw3 fs3 H22 (ExtN.refl _) t22 g22 z22 i22)) (fun H' e => ea_cons (ev_var rfl) (ea_cons (ev_var rfl) ea_nil)) _ fun H23 e23 t23 => ⟨true, rfl, iteF ?_⟩)))
  dsimp only [tNext]
  have D23 := D22.extN e23 t23
  have ruleB23 := ruleB22.extN e23
  clear D22 ruleB22 e23 t22 g22 z22 i22
  -- the rule
  walk_at "q"
  refine s_if_of (t_notZ (t_B_of (ask_v word_rule (cond := fun _ => True) trivial (fun R rr => works_v lam (lv := lv) (lp := lp) (lr := lo) rfl rfl rfl (.inr ruleB23) t23 R fun lw fs H1 e t g le _ it => rr lw fs H1 e t g le it) (fun H' e => ea_nil) _ fun H24 e24 t24 => ⟨true, rfl, iteF ?_⟩)))
  dsimp only [tNext]
  have D24 := D23.extN e24 t24
  clear D23 ruleB23 e24 t23
  exact hand2 lam D24 l3 q
theorem pure_law2 (kz : ZOk Z) (lam : LamOk P w mg base Z c T L cl sc0 N mk mk1) (vs : List V) (H : Hp) (Q : VK) (E : XK) (h : sp_law2 Z T vs H Q E) :
    t_law2 P w mg base Z c T L cl sc0 N mk mk1 { nx := fun _ H' => Q .non H', rt := Q } (start ["_law_script", "_law_d", "_law_values_here", "_law_programs_here", "_law_many", "_law_rule_here", "_law_machine", "_law_hand", "_law_rows", "_law_number", "_law_none", "_law_odd", "_law_bad_here", "_law_works_here", "_law_out"] vs) H := by
  obtain ⟨sc, ns, rfl, hs, hns, tb, q⟩ := h
  unfold t_law2
  walk_at "q"
  refine s_asg_of (s_call (ea_cons (ev_var rfl) ea_nil) ⟨sc, ns, rfl, hs, fun d H1 fd s1 x1 => ?_⟩)
  show ({ nx := _, rt := Q : Ends }).nx _ _
  have tb1 := tb.ext s1
  walk_at "q"
  refine s_asg_of (s_call (ea_cons (ev_var (v := .ref d) rfl) (ea_cons (ev_N 6 rfl) ea_nil)) ⟨d, 6, rfl, x1, by decide, fun lv values H2 f2 c2 x2 hv l1 ov => ?_⟩)
  show ({ nx := _, rt := Q : Ends }).nx _ _
  have nv : lv ≠ d := x1.ne f2
  have tb2 := tabs_chg tb1 c2 x1
  walk_at "q"
  refine s_asg_of (s_call (ea_cons (ev_var (v := .ref d) rfl) (ea_cons (ev_N 3 rfl) (ea_cons (ev_N 4 rfl) ea_nil))) ⟨d, 3, 4, rfl, x2, by decide, by decide, by decide, fun lp ps H3 f3 c3 x3 hp l2 l3 l4 od => ?_⟩)
  show ({ nx := _, rt := Q : Ends }).nx _ _
  have hv3 := c3.ne hv nv
  have tb3 := tabs_chg tb2 c3 x2
  walk_at "q"
  refine s_asg_of (ev_lenP (Z := Z) (n := 3) hp rfl _ ?_)
  show ({ nx := _, rt := Q : Ends }).nx _ _
  walk_at "q"
  refine s_asg_of (s_call (ea_cons (ev_var (v := .ref d) rfl) (ea_cons (ev_var (v := .int (ps.length : Nat)) rfl) ea_nil)) ⟨d, ps.length, rfl, x3, by omega, fun lr r H4 c4 x4 hr or => ?_⟩)
  show ({ nx := _, rt := Q : Ends }).nx _ _
  have hv4 := c4.ne hv3 nv
  have hp4 := hp.dice c4 x3
  have tb4 := tabs_chg tb3 c4 x3
  have ok : okIn values ps r := ⟨l1, ov, ⟨l2, l3⟩, l4, od, or⟩
  walk_at "q"
  refine s_asg_of (s_machine (ea_cons (ev_var (v := .ref lv) rfl) (ea_cons (ev_var (v := .ref lp) rfl) (ea_cons (ev_var (v := .ref lr) rfl) ea_nil))) (SqL.of hv4) hp4.progs hr ok fun A H5 s5 own T5 => ?_)
  show ({ nx := _, rt := Q : Ends }).nx _ _
  have nA : ∀ a, A.owns a → a ≠ d := fun a ha z => by
    have n := own a ha
    obtain ⟨_, _, _, _, _, g, _⟩ := x4
    rw [z, g] at n
    cases n
  have D5 : D2 Z T H5 d lv lp lr A values ps r := ⟨x4.same s5, s5 _ _ hv4, hp4.same s5, hr.mono fun b xs e => s5 _ _ e, T5, ok, nv, nA, tb4.ext s5⟩
  clear T5 s5 x4 hv4 hp4 hr tb4 tb3 tb2 tb1 c4 c3 c2 hv3 hv hp x3 x2 x1 s1 fd f2 f3
  have hl : (M.begin_ values ps r).hands.length = ps.length := by show (ps.map _).length = _; rw [List.length_map]
  have handAt : ∀ i, i < ps.length → ∃ a, A.hs[i]? = some a := fun i hi => ⟨_, List.getElem?_eq_getElem (by rw [D5.M.hs, hl]; exact hi)⟩
  -- asked of the machine
  walk_at "q"
  refine s_if_of (t_notZ (t_B_of (t_call_of (t_cons_of (e_empties (k := 7) (n := ps.length) (ev_var (v := .int (ps.length : Nat)) rfl) (by omega) (fun i H' hi s' R rr => ?_) fun D1 ls1 H6 s6 g6 n6 a6 => t_cons_of (e_empties (k := 7) (n := ps.length) (ev_var (v := .int (ps.length : Nat)) rfl) (by omega) (fun i H' hi s' R rr => ?_) fun D2' ls2 H7 s7 g7 n7 a7 => ?_))))))
  · obtain ⟨a, ha⟩ := handAt i hi
    have T' := (D5.same s').M
    refine s_meth (ev_var (v := .ref A.p) rfl) T'.obj (mf_no _ _ _ (by simp)) (ea_cons (ev_var (v := .int (i : Nat)) rfl) ea_nil) ⟨A, _, i, a, rfl, T', ha, fun l hl2 => ?_⟩
    rw [begin_hd2]
    exact rr l hl2
  · exact e_lst ea_nil (by show 0 ≤ 1000; decide) rr
  refine ⟨.ref D1, .ref D2', .list (List.replicate ps.length (.list [])), rfl, ?_, ?_, (okD_nils _).1, Nat.lt_of_le_of_lt (okD_nils _).2 (by decide), by decide, small_nils (by omega), ⟨true, rfl, iteF ?_⟩⟩
  · rw [← n6]
    exact .lst (SqL.of (s7 _ _ g6)) (dp_nils fun a ha => s7 _ _ (a6 a ha))
  · rw [← n7]
    exact .lst (SqL.of g7) (dp_nils a7)
  dsimp only [tNext]
  have D7 := D5.same (Same.trans s6 s7)
  clear s6 s7 g6 g7 a6 a7
  walk_at "q"
  refine s_if_of (t_or_of (t_notZ (t_B_of (t_call_of (t_cons_of (e_zeros (k := 7) (n := ps.length) (ev_var (v := .int (ps.length : Nat)) rfl) (by omega) (fun i H' hi s' => ?_) fun D1 H8 s8 g8 => t_cons_of (evx_rep (E := fun _ v (i : Int) => v = V.int i) (xs := [0]) (n := ps.length) (fun _ _ _ _ _ h => h) (evx_one (fun _ _ _ _ _ h => h) fun Q q => ev_c _ (q _ _ (Same.refl _) rfl)) (fun _ _ => ev_var rfl) (by show 1 * ps.length ≤ 1000; omega) (by omega) _ fun lz uz H9 s9 g9 a9 => ?_)))))))
  · obtain ⟨a, ha⟩ := handAt i hi
    have T' := (D7.same s').M
    intro R rr
    refine s_meth (ev_var (v := .ref A.p) rfl) T'.obj (mf_no _ _ _ (by simp)) (ea_cons (ev_var (v := .int (i : Nat)) rfl) ea_nil) ⟨A, _, i, a, rfl, T', ha, ?_⟩
    rw [begin_hd2]
    exact rr
  have fz : ∀ n : Nat, (List.replicate n ([0] : List Int)).flatten = List.replicate n 0 := fun n => by
    induction n with
    | zero => rfl
    | succ n ih =>
      rw [List.replicate_succ, List.flatten_cons, ih, List.replicate_succ]
      rfl
  have uz0 : uz = List.replicate ps.length (V.int 0) := by
    rw [fz] at a9
    have al : ∀ {us : List V} {n : Nat}, All2 (fun v (i : Int) => v = V.int i) us (List.replicate n 0) → us = List.replicate n (V.int 0) := fun {us n} => by
      induction n generalizing us with
      | zero => intro h; cases h; rfl
      | succ n ih =>
        intro h
        rw [List.replicate_succ] at h
        cases h with
        | cons a b =>
          rw [a, ih b]
          rfl
    exact al a9
  subst uz0
  refine ⟨.ref D1, .ref lz, .list (List.replicate ps.length (.int 0)), rfl, .lst (SqL.of (s9 _ _ g8)) (dp_zeros _), .lst (SqL.of g9) (dp_zeros _), (okD_zeros _).1, Nat.lt_of_le_of_lt (okD_zeros _).2 (by decide), by decide, small_zeros (by omega), ⟨true, rfl, iteF ?_⟩⟩
  have D9 := D7.same (Same.trans s8 s9)
  clear D7 s8 s9 g8 g9 a9
  refine t_test_of (t_op_of (s_meth (ev_var (v := .ref A.p) rfl) D9.M.obj (mf_no _ _ _ (by simp)) ea_nil ⟨A, _, rfl, D9.M, fun lo uo hlo hu => ?_⟩))
  have uo0 : uo = [] := by
    have e : (M.begin_ values ps r).ends = [] := rfl
    rw [e] at hu
    cases hu
    rfl
  subst uo0
  have s10 : Same H9 (upd H9 lo (.lst [])) := Same.new hlo
  have g10 : (upd H9 lo (.lst [])) lo = some (.lst []) := upd_same
  have D10 := D9.same s10
  generalize upd H9 lo (.lst []) = H10 at g10 D10 ⊢
  refine e_lst ea_nil (by show 0 ≤ 1000; decide) fun p hp => ?_
  refine ⟨.list [], .list [], .lst (SqL.of (Same.new hp _ _ g10)) .nil, .lst (SqL.of upd_same) .nil, by decide +kernel, by decide +kernel, ?_⟩
  rw [show PyData.eqv (.list []) (.list []) = true by decide +kernel]
  refine ⟨false, rfl, iteF ?_⟩
  dsimp only [tNext]
  have D11 := D10.same (Same.new (o := .lst []) hp)
  generalize upd H10 p (.lst []) = H11 at D11
  clear D10 D9 D5 s10 g10 hlo hp hu
  -- programs that cannot be
  walk_at "q"
  refine s_asg_of (s_call (ea_cons (ev_var (v := .ref d) rfl) (ea_cons (ev_var (v := .ref lp) rfl) ea_nil)) ⟨d, lp, ps, rfl, D11.x, D11.p, l2, l3, l4, od, fun t lrow us rows hh nn H12 c12 x12 gt grow arow rl pb => ⟨t, _, rfl, SqT.of gt, rfl, _, _, rfl, _, _, rfl, _, _, rfl, rfl, ?_⟩⟩)
  show ({ nx := _, rt := Q : Ends }).nx _ _
  have D12 := D11.dice c12 x12
  clear D11 gt
  -- rules that are none
  walk_at "q"
  refine s_asg_of (evx_disp mn_x (evxs_cons mn_x (ev_cnt ev_c) fun _ _ => evxs_cons mn_x (ev_cnt ev_c) fun _ _ => evxs_cons mn_x (ev_mrkT (is := [(ps.length : Nat)]) (ea_cons (ev_var rfl) ea_nil) (by show 1 ≤ 1000; decide)) fun _ _ => evxs_cons mn_x (ev_mrkT (is := [-1]) (ea_cons (ev_neg ev_c) ea_nil) (by show 1 ≤ 1000; decide)) fun _ _ =>
    evxs_cons mn_x (ev_mrkT (is := [0, 0]) (ea_cons ev_c (ea_cons ev_c ea_nil)) (by show 2 ≤ 1000; decide)) fun _ _ => evxs_cons mn_x (ev_cnt ev_c) fun _ _ => evxs_nil) (by show 6 ≤ 1000; decide) _ fun l6 us6 H13 s13 g13 a13 => ?_)
  show ({ nx := _, rt := Q : Ends }).nx _ _
  walk_at "q"
  refine s_asg_of (evx_catN mn_x (evx_var rfl g13 a13) (fun H' s' => evx_disp mn_x (evxs_cons mn_x (ev_mrkT (is := [((ps.length : Nat) : Int) - 1, 0]) (ea_cons (ev_sub (ev_var rfl) ev_c) (ea_cons ev_c ea_nil)) (by show 2 ≤ 1000; decide)) fun _ _ => evxs_cons mn_x ev_one fun _ _ => evxs_cons mn_x (ev_cnt ev_c) fun _ _ => evxs_cons mn_x ev_one fun _ _ => evxs_cons mn_x ev_one fun _ _ => evxs_nil) (by show 5 ≤ 1000; decide))
    (by show 6 ≤ 1000; decide) (by show 5 ≤ 1000; decide) _ fun l10 us10 H14 n10 s14 g14 a14 => ?_)
  show ({ nx := _, rt := Q : Ends }).nx _ _
  have a14 : All2 (RxE H14) us10 (none11 ps.length) := a14
  have n12 : H12 l10 = none := free_of s13 n10
  have s12 := Same.trans s13 s14
  have u10 : us10.length = 11 := a14.length
  clear n10 s13 s14 g13 a13
  walk_at "q"
  refine s_appX (ev_var (v := .ref l10) rfl) g14 (ev_mrk (is := (List.range ps.length).map (fun i : Nat => (i : Int)) ++ [((ps.length : Nat) : Int) - 1]) (fun R rr => ?_) _ fun v H15 s15 e15 => ⟨us10, s15 _ _ g14, by rw [u10]; decide, ?_⟩)
  · refine t_op_of (e_trg2 (ev_var (v := .int (ps.length : Nat)) rfl) (by omega) fun p1 hp1 => e_tup (ea_cons (ev_sub (ev_var (v := .int (ps.length : Nat)) rfl) ev_c) ea_nil) (by show 1 ≤ 1000; decide) fun p2 hp2 => ?_)
    have g1 := Same.new (o := .tup [V.int (((ps.length : Nat) : Int) - 1)]) hp2 _ _ (upd_same (H := H14) (a := p1) (o := .tup ((List.range ps.length).map natV)))
    refine ⟨p1, p2, _, _, rfl, rfl, SqT.of g1, SqT.of upd_same, by rw [List.length_map, List.length_range]; show ps.length + 1 ≤ sizeLine; rw [sizeLine_eq]; omega, fun z => ?_, (fun _ z => by cases z), fun _ _ p3 hp3 => ?_⟩
    · have : (List.range ps.length).length = 0 := by
        rw [← List.length_map (f := natV), z]
        rfl
      rw [List.length_range] at this
      omega
    · refine rr p3 _ (fun b o e => Same.new hp3 _ _ (Same.new hp2 _ _ (Same.new hp1 _ _ e))) ?_
      rw [upd_same, List.map_append, List.map_map]
      rfl
  show ({ nx := _, rt := Q : Ends }).nx _ _
  have s16 : Same H12 (upd H15 l10 (.lst (us10 ++ [v]))) := same_newer (Same.trans s12 s15) n12
  have g16 : (upd H15 l10 (.lst (us10 ++ [v]))) l10 = some (.lst (us10 ++ [v])) := upd_same
  have tp : Tups H15 (upd H15 l10 (.lst (us10 ++ [v]))) := fun b xs e => by
    rw [upd_ne fun z => by rw [z, s15 _ _ g14] at e; cases e]
    exact e
  have a16 : All2 (RxE (upd H15 l10 (.lst (us10 ++ [v])))) (us10 ++ [v]) (none11 ps.length ++ [noneL ps.length]) := all2_cat1 (a14.mono fun _ _ h => by
    obtain ⟨a, e, r⟩ := mn_x _ _ _ _ s15 h
    exact ⟨a, e, r.mono tp⟩) (.cons (by
    obtain ⟨a, e, r⟩ := e15
    exact ⟨a, e, r.mono tp⟩) .nil)
  generalize upd H15 l10 (.lst (us10 ++ [v])) = H16 at s16 g16 a16 ⊢
  have D16 := D12.same s16
  have u11 : (us10 ++ [v]).length = 12 := by rw [List.length_append, u10]; rfl
  walk_at "q"
  refine s_asg_of (t_op_of (ev_var (v := .ref l10) rfl _ (s_next (d := d) rfl D16.x (m := 12) (ev_is (ev_lenL (ev_var (v := .ref l10) rfl) (SqL.of g16)) (by rw [u11])) (by decide) (by decide) fun y H17 hy c17 x17 => ?_)))
  have l10d : l10 ≠ d := fun z => by
    obtain ⟨_, _, _, _, _, g, _⟩ := D12.x
    rw [z, g] at n12
    cases n12
  obtain ⟨vo, hvo⟩ : ∃ vo, (us10 ++ [v])[y]? = some vo := ⟨_, List.getElem?_eq_getElem (by rw [u11]; exact hy)⟩
  refine ⟨l10, _, _, _, rfl, rfl, SqL.of (c17.ne g16 l10d), atI_nat hvo, ?_⟩
  obtain ⟨xo, hxo⟩ : ∃ xo, (none11 ps.length ++ [noneL ps.length])[y]? = some xo := ⟨_, List.getElem?_eq_getElem (by have := a16.length; rw [u11] at this; rw [← this]; exact hy)⟩
  obtain ⟨vo', hvo', exo⟩ := a16.get y hxo
  rw [hvo] at hvo'
  cases hvo'
  obtain ⟨lo, rfl, rxo⟩ := exo
  have bx := none_bad l2 l3 xo (List.mem_of_getElem? hxo)
  have rx17 := rxo.mono c17.tup
  show ({ nx := _, rt := Q : Ends }).nx _ _
  have D17 := D16.dice c17 x17
  have arow16 := arow.mono fun _ _ h => mn_r _ _ _ _ s16 h
  have grow16 := s16 _ _ grow
  have grow17 := c17.ne grow16 (rows_ne D16.x grow16 arow16)
  have arow17 := arow16.mono fun _ _ h => RowAny.dice c17 D16.x h
  clear D16 D12 a16 g16 s16 rxo hvo hxo arow grow arow16 grow16 s12 g14 a14
  -- values that cannot be
  walk_at "q"
  obtain ⟨ca, cb, ecut, cb1⟩ := cut_two (xs := values.map V.int)
  have zl : ((values.drop ca).take cb).length ≤ 1 := by rw [List.length_take]; omega
  have sl34 : ∀ {s : L2.St} {H' : Hp}, s[2]? = some (some (.ref lv)) → H' lv = some (.lst (values.map V.int)) → EvX IntE (tSl (rSlL Z.K) (tVar 2) (tPart (tC (.int 3))) (tPart (tC (.int 4)))) s H' ((values.drop ca).take cb) := fun {s H'} e g R rr => ev_var e _ (ev_c _ ⟨3, rfl, ev_c _ ⟨4, rfl, lv, _, rfl, SqL.of g, fun p hp => by
    rw [ecut, ← List.map_drop, ← List.map_take]
    exact rr p _ _ (Same.new hp) upd_same (of_ints _)⟩⟩)
  refine s_asg_of (evx_cat mn_i (evx_cat mn_i (evx_take (n := 3) mn_i (ev_var (v := .ref lv) rfl) ev_c D17.v (of_ints _)) (fun _ _ => evx_one mn_i fun R rr => ev_c _ (rr _ _ (Same.refl _) rfl)) (by rw [List.length_take]; omega) (by show 1 ≤ 1000; decide)) (fun H' s' => sl34 rfl (s' _ _ D17.v)) (by rw [List.length_append, List.length_take]; show _ + 1 ≤ 1000; omega) (by omega) _ fun lb ub H18 s18 g18 a18 => ?_)
  show ({ nx := _, rt := Q : Ends }).nx _ _
  obtain rfl := ints_of a18
  have vbad := bad_vals ov zl
  have bl : (values.take 3 ++ [100] ++ (values.drop ca).take cb).length ≤ 1000 := by
    rw [List.length_append, List.length_append, List.length_take]
    show _ + 1 + _ ≤ 1000
    omega
  have D18 := D17.same s18
  have grow18 := s18 _ _ grow17
  have arow18 := arow17.mono fun _ _ h => mn_r _ _ _ _ s18 h
  have rx18 := rx17.mono (extN_tups (same_extN s18))
  generalize values.take 3 ++ [100] ++ (values.drop ca).take cb = badv at g18 vbad bl
  clear D17 grow17 arow17 rx17 a18 s18 sl34 ecut
  have pileB : VPBad Z H18 lb lrow (.pile (min 3 values.length)) := ⟨badv, SqL.of g18, bl, .inl ⟨_, vbad, rfl⟩⟩
  have deedB : VPBad Z H18 lv lrow (.deed hh nn) := ⟨values, SqL.of D18.v, by omega, .inr ⟨⟨l1, ov⟩, us, rows, grow18, arow18, rl, hh, nn, pb, rfl⟩⟩
  have ruleB : RBad Z H18 lv lp lo .rule := by
    obtain ⟨us0, g0, a0⟩ := D18.p
    have e0 : (rowsV ps).length = ps.length := by rw [rowsV, List.length_map]
    exact ⟨values, us0, rowsV ps, xo, SqL.of D18.v, ⟨l1, ov⟩, g0, pg_rows (us := us0) a0 l4, ⟨by rw [e0]; exact ⟨l2, l3⟩, good_rowsV l4 od⟩, rx18, by rw [e0]; exact bx, rfl⟩
  clear grow18 arow18 rx18 g18 vbad pb bx
  exact pile2 lam D18 l3 pileB deedB ruleB q
end
end SS

set_option Elab.async false
set_option linter.all false
set_option maxRecDepth 100000
set_option maxHeartbeats 4000000
/-! What the head is asked of the refusals' classes. -/
namespace SX
open PySem PySem.Spec PyProof.Rows L2 SS
def oexB1 (K : PySem.W.Frag) (C : Addr) : Bool := match K.lookup C with
  | some ⟨.type "type", _, .cls cd, sl⟩ => (match cd.mro, sl.toList with
    | .ref C' :: bm, [_, _, _, _, some (.builtin n), _] => C' == C && n == "ValueError.__new__" && !cd.hasDel && cd.hasDict && PySem.HandSPX.refsVE bm
    | _, _ => false)
  | _ => false
theorem oexB1_ok {K : PySem.W.Frag} {C : Addr} (q : oexB1 K C = true) : ∃ nm q N bs bm sn sub ab col dd k0 k1 k2 k3 k5, K.lookup C = some (excClassObj nm q C N bs bm true sn sub ab col dd k0 k1 k2 k3 k5 "ValueError.__new__") ∧ PySem.HandSPX.refsVE bm = true := by
  unfold oexB1 at q
  split at q
  · rename_i dd cd sl ho
    split at q
    · rename_i C' bm k0 k1 k2 k3 n k5 hm hs
      simp only [Bool.and_eq_true, beq_iff_eq, Bool.not_eq_true'] at q
      obtain ⟨⟨⟨⟨rfl, rfl⟩, hdel⟩, hdi⟩, ht⟩ := q
      obtain ⟨nm, bs, mro, ns, qn, hd, sn, sub, ab, col, del⟩ := cd
      dsimp only at hm hdel hdi
      subst hm hdel hdi
      have hsl : sl = #[k0, k1, k2, k3, some (.builtin "ValueError.__new__"), k5] := by
        obtain ⟨l⟩ := sl
        simp only at hs
        rw [hs]
      subst hsl
      exact ⟨nm, qn, ns, bs, bm, sn, sub, ab, col, dd, k0, k1, k2, k3, k5, ho, ht⟩
    · cases q
  · cases q
/-- an own class with fields -/
def oexK (K : PySem.W.Frag) (C : Addr) : Bool := oexB1 K C && (decide (PySem.W.findIn K (.ref C) "__setattr__" = some (some (.builtin "object.__setattr__"))) && (decide (PySem.W.subIn K (.ref C) (.type "BaseException") = some true) && (decide (PySem.W.typeIn K (.ref C) = some (.type "type")) && (PySem.W.keepIn K (.ref C) && xfB K C))))
theorem oexK_ok {K : PySem.W.Frag} {C : Addr} (h : oexK K C = true) : OexC K C ∧ XfC K C := by
  unfold oexK at h
  simp only [Bool.and_eq_true, decide_eq_true_eq] at h
  obtain ⟨a, b, c, d, e, f⟩ := h
  exact ⟨⟨oexB1_ok a, b, c, d, e⟩, xfB_ok f⟩
/-- the common base -/
def peK (K : PySem.W.Frag) (C : Addr) : Bool := decide (PySem.W.specialIn K (.ref C) "__getattribute__" = some (some (.builtin "type.__getattribute__"))) && (PySem.W.readsIn K C (.type "type") && (match PySem.W.findCls K (.ref C) (.type "type") "__init__" with | some (.val (.builtin n)) => n == "ValueError.__init__" | _ => false))
structure PeC (K : PySem.W.Frag) (C : Addr) : Prop where
  gA : PySem.W.specialIn K (.ref C) "__getattribute__" = some (some (.builtin "type.__getattribute__"))
  rd : PySem.W.readsIn K C (.type "type") = true
  vV : PySem.W.findCls K (.ref C) (.type "type") "__init__" = some (.val (.builtin "ValueError.__init__"))
theorem peK_ok {K : PySem.W.Frag} {C : Addr} (h : peK K C = true) : PeC K C := by
  unfold peK at h
  simp only [Bool.and_eq_true, decide_eq_true_eq] at h
  obtain ⟨a, b, c⟩ := h
  refine ⟨a, b, ?_⟩
  split at c
  · rename_i n hn
    rw [hn]
    have : n = "ValueError.__init__" := by simpa using c
    rw [this]
  · cases c
/-- isinstance of the four -/
def isK (K : PySem.W.Frag) (D : Addr) : Bool := (PySem.W.clsIn K D).isSome && (decide (PySem.W.findIn K (.ref D) "__getattribute__" = some (some (.builtin "BaseException.__getattribute__"))) && (decide (PySem.W.findIn K (.ref D) "__getattr__" = some none) && (decide (PySem.W.subIn K (.ref D) (.type "BaseException") = some true) &&
  (decide (PySem.W.findIn K (.ref D) "__class__" = some (some (.builtin "object.__class__"))) && (decide (PySem.W.specialIn K (.builtin "object.__class__") "__get__" = some (some (.builtin "getset_descriptor.__get__"))) && (decide (PySem.W.takesIn K (.builtin "object.__class__") = some true) && decide (PySem.W.mroIn K D (.type "object") = some true)))))))
theorem isK_ok {K : PySem.W.Frag} {D : Addr} (h : isK K D = true) : IsC K D := by
  unfold isK at h
  simp only [Bool.and_eq_true, decide_eq_true_eq] at h
  obtain ⟨a, b, c, d, e, f, g, i⟩ := h
  exact ⟨a, b, c, d, e, f, g, i⟩
def c4 (K : PySem.W.Frag) : Nat → Addr
  | 0 => He.ga K "BadPile"
  | 1 => He.ga K "BadDeed"
  | 2 => He.ga K "BadRule"
  | _ => He.ga K "NoHand"
def ks4K (K : PySem.W.Frag) : Bool := (List.range 4).all fun i => isK K (c4 K i) && (decide (PySem.W.kitOne K (.ref (c4 K i)) (.type "ValueError") = some true) && (List.range 4).all fun j => decide (PySem.W.kitOne K (.ref (c4 K i)) (.ref (c4 K j)) = some (decide (i = j))))
theorem ks4K_ok {K : PySem.W.Frag} (h : ks4K K = true) : Ks4 K (c4 K) := by
  have each : ∀ i, i < 4 → isK K (c4 K i) = true ∧ PySem.W.kitOne K (.ref (c4 K i)) (.type "ValueError") = some true ∧ ∀ j, j < 4 → PySem.W.kitOne K (.ref (c4 K i)) (.ref (c4 K j)) = some (decide (i = j)) := fun i hi => by
    have := List.all_eq_true.mp h i (List.mem_range.mpr hi)
    simp only [Bool.and_eq_true, decide_eq_true_eq, List.all_eq_true, List.mem_range] at this
    exact this
  exact ⟨fun i hi => isK_ok (each i hi).1, fun i j hi hj => (each i hi).2.2 j hj, fun i hi => (each i hi).2.1⟩
def exB (K : PySem.W.Frag) : Bool := oexK K (He.ga K "BadPile") && (oexK K (He.ga K "BadDeed") && (peK K (He.ga K "PileError") && ks4K K))
structure ExK (K : PySem.W.Frag) : Prop where
  bp : OexC K (He.ga K "BadPile") ∧ XfC K (He.ga K "BadPile")
  bd : OexC K (He.ga K "BadDeed") ∧ XfC K (He.ga K "BadDeed")
  pe : PeC K (He.ga K "PileError")
  ks : Ks4 K (c4 K)
theorem exB_ok {K : PySem.W.Frag} (h : exB K = true) : ExK K := by
  unfold exB at h
  simp only [Bool.and_eq_true] at h
  obtain ⟨a, b, c, d⟩ := h
  exact ⟨oexK_ok a, oexK_ok b, peK_ok c, ks4K_ok d⟩
/-- nothing is let out -/
theorem takesN0 {X : Cx} : L2N.Takes X (fun _ _ _ _ => False) := fun u s x => by
  obtain ⟨_, _, _, _, _, _, _, _, _, _, _, _, _, _, _, _, z⟩ := x
  exact z.elim
theorem passS0 {X : Cx} {E : L2.St → XK} : ∀ σ, PassesAt CX0 X σ (E σ) := fun _ _ _ _ _ _ _ h => h.elim
theorem roomH_u {k : Nat} {A : Around} (r : L2H.RoomH k A) : A.units + 64 < cLine := by
  have := r.un
  omega
end SX

set_option Elab.async false
set_option linter.all false
set_option maxRecDepth 100000
set_option maxHeartbeats 4000000
/-! What the head is asked of refusals without fields. -/
namespace SX
open PySem PySem.Spec PyProof.Rows L2 SS
abbrev veT : List Value := [.type "ValueError", .type "Exception", .type "BaseException", .type "object"]
structure PlC (K : PySem.W.Frag) (C : Addr) : Prop where
  ex : PySem.W.excIn K C veT "ValueError.__new__" = true
  kp : PySem.W.keepIn K (.ref C) = true
  su : PySem.W.subIn K (.ref C) (.type "BaseException") = some true
  ty : PySem.W.typeIn K (.ref C) = some (.type "type")
def plK (K : PySem.W.Frag) (C : Addr) : Bool := PySem.W.excIn K C veT "ValueError.__new__" && (PySem.W.keepIn K (.ref C) && (decide (PySem.W.subIn K (.ref C) (.type "BaseException") = some true) && decide (PySem.W.typeIn K (.ref C) = some (.type "type"))))
theorem plK_ok {K : PySem.W.Frag} {C : Addr} (h : plK K C = true) : PlC K C := by
  unfold plK at h
  simp only [Bool.and_eq_true, decide_eq_true_eq] at h
  obtain ⟨a, b, c, d⟩ := h
  exact ⟨a, b, c, d⟩
def exC (K : PySem.W.Frag) : Bool := exB K && (plK K (He.ga K "BadRule") && plK K (He.ga K "NoHand"))
structure ExK2 (K : PySem.W.Frag) : Prop where
  e : ExK K
  br : PlC K (He.ga K "BadRule")
  nh : PlC K (He.ga K "NoHand")
theorem exC_ok {K : PySem.W.Frag} (h : exC K = true) : ExK2 K := by
  unfold exC at h
  simp only [Bool.and_eq_true] at h
  obtain ⟨a, b, c⟩ := h
  exact ⟨exB_ok a, plK_ok b, plK_ok c⟩
/-- raise X("..") -/
theorem ps_rzO {X : Cx} {x m : Str} {j : Nat} {C : Addr} {p p2 pos rpos : Pos} {W : WX} (e : PlC X.K C) (calm : X.calm = true) (tk : L2N.Takes X W) (hg : Gl X x) (hm : X.mg x = some (.ref C)) (hdb : (x == ("__debug__" : Str)) = false := by decide) :
    PS X (.Raise (some (.Call (.Name x p) [.Constant (.str m) j p2] [] pos)) none rpos) (tRzO C W) :=
  L2N.ps_raise calm tk (L2N.pmk_own PySem.F.excBase_ValueError e.ex hm e.kp (raises_own e.su e.ty) hg hdb)
end SX

set_option Elab.async false
set_option linter.all false
set_option maxRecDepth 100000
set_option maxHeartbeats 4000000
/-! k02: the script that stands unlocked; the makers' code objects. -/
namespace SX
open PySem PySem.Spec PyProof.Rows L2 LamX SS
/-- a def whose code object is known -/
theorem okT {P : Program} {w : World} {K : PySem.W.Frag} {mg : Str → Option Value} {base : Heap} {x qual : Str} {params : Arguments} {body : List Stmt} {scope : Scope} {dvs : List V} {kws : List (Str × V)} {f c : Addr} {fd : FuncData} {CX : CXT} {N ps : List Str} {k : Nat} {sp : Sp}
    (F : FunD K x qual params body scope dvs kws f fd) (S : FnScope N ps scope) (ln : ∀ vs H Q E, sp vs H Q E → vs.length = ps.length) (hc : ∀ oc od osl (g : FuncData), K.lookup f = some ⟨oc, od, .func g, osl⟩ → g.code = .ref c)
    (bd : ∀ (A : Around) (outer : List Env) (s : Shared) (H : Hp) (vs : List V) (Q : VK) (E : XK), Room k (A.deeper (envOfC qual scope s.heap.objs.size f (.ref c))) → sp vs H Q E →
      ∃ t, PSs (cxOf CX P w K mg base N qual scope f (.ref c) A outer s H E) body t ∧ t { nx := fun _ H' => Q .non H', rt := Q } (L2.start N vs) H) : FnOk P w K mg base CX (k + 1) f fd ps sp := by
  obtain ⟨oc, od, dV, kV, doc, pm, an, cdv, ct, osl, rfl, lk, hcd, _, _⟩ := F.ex
  have e : cdv = .ref c := hc _ _ _ _ lk
  subst e
  exact fn_of lk hcd S ln bd
/-- the law's promise where the script may stand unlocked -/
def sp_lawW (Z : Cs) (T : List (Addr × Str)) : L2.Sp := fun vs H Q _ => ∃ (sc : Addr) (ns : List Int), vs = [.ref sc] ∧ SqL Z.K H sc (ns.map V.int) ∧ ns.length ≤ 63 ∧ Tabs T H ∧ ∀ H', Q (.bl true) H'
theorem hok_frz {P : Program} {w : World} {H : Hp} {h : Heap} {a : Addr} {o : Obj} {xs : List V} (ok : HOk P w H h) (e : H a = some (.lst xs)) (g : h.get? a = some o) : HOk P w (upd H a (.frz o (.lst xs))) h := fun b u hb => by
  have own : ∀ d x, H d = some (.own x) → upd H a (.frz o (.lst xs)) d = some (.own x) := fun d x z => by
    rw [upd_ne (fun y => by rw [y, e] at z; cases z)]
    exact z
  have tups : ∀ d ys, H d = some (.tup ys) → upd H a (.frz o (.lst xs)) d = some (.tup ys) := fun d ys z => by
    rw [upd_ne (fun y => by rw [y, e] at z; cases z)]
    exact z
  by_cases z : b = a
  · rw [z, upd_same] at hb
    cases hb
    rw [z]
    exact ⟨g, (ok a _ e).stay (fun _ _ _ q => q) (fun d q => own d _ q) tups⟩
  · rw [upd_ne z] at hb
    exact (ok b u hb).stay (fun _ _ _ q => q) (fun d q => own d _ q) tups
theorem tabs_frz {T : List (Addr × Str)} {H : Hp} {a : Addr} {o : Obj} {xs : List V} (t : Tabs T H) (e : H a = some (.lst xs)) : Tabs T (upd H a (.frz o (.lst xs))) := fun p hp => by
  obtain ⟨ps, g1, g2, g3⟩ := t p hp
  refine ⟨ps, by rw [upd_ne (fun z => by rw [z, e] at g1; cases g1)]; exact g1, g2, fun pos cv hc => ?_⟩
  obtain ⟨c0, e0, h0⟩ := g3 pos cv hc
  refine ⟨c0, e0, ?_⟩
  rw [upd_ne (fun z => by rw [z, e] at h0; unfold CodeO at h0; cases h0)]
  exact h0
theorem fn_frz {P : Program} {w : World} {K : PySem.W.Frag} {mg : Str → Option Value} {base : Heap} {k : Nat} {f : Addr} {fd : FuncData} {ps : List Str} {Z : Cs} {T : List (Addr × Str)} (eZ : Z.K = K) (F : FnOk P w K mg base CX0 k f fd ps (sp_law2 Z T)) : FnOk P w K mg base CX0 k f fd ps (sp_lawW Z T) := by
  refine ⟨fun vs H Q E h => ?_, fun A outer s H args us vs Q E hr e0 hb rv h => ?_⟩
  · obtain ⟨sc, ns, rfl, hs, hl, tb, q⟩ := h
    rcases hs with (hs | ⟨o, hs⟩) | hs
    · exact F.len [.ref sc] (upd H sc (.frz { cls := .none, data := .fields #[] } (.lst (ns.map V.int)))) Q E ⟨sc, ns, rfl, .inl ⟨_, upd_same⟩, hl, tabs_frz tb hs, q⟩
    · exact F.len [.ref sc] H Q E ⟨sc, ns, rfl, .inl ⟨o, hs⟩, hl, tb, q⟩
    · exact F.len [.ref sc] H Q E ⟨sc, ns, rfl, .inr hs, hl, tb, q⟩
  · obtain ⟨sc, ns, rfl, hs, hl, tb, q⟩ := h
    have go : ∀ H2 : Hp, ScrAt Z.K H2 sc (ns.map V.int) → Tabs T H2 → sp_law2 Z T [.ref sc] H2 Q E := fun H2 a b => ⟨sc, ns, rfl, a, hl, b, q⟩
    rcases hs with (hs | ⟨o, hs⟩) | hs
    · obtain ⟨z, its, n, rits, get⟩ := e0.hok sc _ hs
      have nb : ∀ b, upd H sc (.frz { cls := .type "list", data := .seq its.toArray n } (.lst (ns.map V.int))) b = none ↔ H b = none := fun b => by
        by_cases e : b = sc
        · rw [e, upd_same, hs]
          exact ⟨fun z => (by cases z), fun z => (by cases z)⟩
        · rw [upd_ne e]
      have e2 : Env0 P w K mg base A outer s (upd H sc (.frz { cls := .type "list", data := .seq its.toArray n } (.lst (ns.map V.int)))) :=
        ⟨e0.frames, e0.mod, fun b o e => ⟨(e0.bs b o e).1, (nb b).mpr (e0.bs b o e).2⟩, e0.bsz, e0.funs, fun b hb => (nb b).mpr (e0.frf b hb), hok_frz e0.hok hs get, e0.bare⟩
      refine codeAny_mono (F.run A outer s _ args us _ Q E hr e2 hb rv (go _ (.inl ⟨_, upd_same⟩) (tabs_frz tb hs))) fun r s' hq => ?_
      cases r with
      | error er => exact hq.elim
      | ok fl =>
        cases fl with
        | next => exact hq.elim
        | brk => exact hq.elim
        | cont => exact hq.elim
        | ret u =>
          obtain ⟨v, H', os, bare, un, hok, rv2, q2⟩ := hq
          have ne : ∀ b o, H b = some o → (∀ xs, o ≠ .lst xs) → b ≠ sc := fun b o e n z => by
            rw [z, hs] at e
            exact n _ (Option.some.inj e).symm
          refine ⟨v, H', os, bare, ⟨fun b o e n => un.keep b o e ((nb b).mpr n), fun b o e n => un.slot b o e ((nb b).mpr n), fun b o e n => un.free b o e ((nb b).mpr n), un.there, fun b xs e => un.tups b xs ?_, fun b o u e => un.frzs b o u ?_, fun b ps e => un.tbls b ps ?_⟩, hok, rv2, q2⟩
          · rw [upd_ne (ne b _ e fun xs z => by cases z)]; exact e
          · rw [upd_ne (ne b _ e fun xs z => by cases z)]; exact e
          · rw [upd_ne (ne b _ e fun xs z => by cases z)]; exact e
    · exact F.run A outer s H args us _ Q E hr e0 hb rv (go H (.inl ⟨o, hs⟩) tb)
    · exact F.run A outer s H args us _ Q E hr e0 hb rv (go H (.inr hs) tb)
/-- the code object of a def, its table -/
def cdA (K : PySem.W.Frag) (x : Str) : Addr := match K.lookup (He.ga K x) with
  | some ⟨_, _, .func fd, _⟩ => (match fd.code with | .ref c => c | _ => 0)
  | _ => 0
def cdP (K : PySem.W.Frag) (x : Str) : Addr := match K.lookup (cdA K x) with
  | some ⟨_, _, .fields vs, _⟩ => (match (vs[11]? : Option Value) with | some (.ref P) => P | _ => 0)
  | _ => 0
def lamN (x : Str) : Str := (x ++ ".<locals>.") ++ "<lambda>"
def T02 (K : PySem.W.Frag) : List (Addr × Str) := [(cdP K "law", lamN "law"), (cdP K "_law_works", lamN "_law_works")]
/-- words of the lambdas in a text -/
def lamOf (d : LW) : Expr → LW
  | .Lambda p b s _ => ⟨p, b, s⟩
  | _ => d
def argOf : Stmt → Expr
  | .Assign _ (.List [e] _) _ => e
  | .Expr (.Call _ [e] _ _) _ => e
  | _ => .Name "x" ⟨0, 0, 0, 0⟩
def arg2Of (j : Nat) : Stmt → Expr
  | .Assign _ (.BinOp _ _ (.List es _) _) _ => es.getD j (.Name "x" ⟨0, 0, 0, 0⟩)
  | _ => .Name "x" ⟨0, 0, 0, 0⟩
end SX

namespace SS
open PySem L2
theorem len_need_values {Z : Cs} {vs : List V} {H : Hp} {Q : VK} {E : XK} (h : sp_need_values Z vs H Q E) : vs.length = 1 := by
  obtain ⟨_, _, rfl, _⟩ := h
  rfl
theorem len_is_deed {Z : Cs} {vs : List V} {H : Hp} {Q : VK} {E : XK} (h : sp_is_deed Z vs H Q E) : vs.length = 1 := by
  obtain ⟨_, _, rfl, _⟩ := h
  rfl
theorem len_need_deeds {Z : Cs} {vs : List V} {H : Hp} {Q : VK} {E : XK} (h : sp_need_deeds Z vs H Q E) : vs.length = 2 := by
  obtain ⟨_, _, _, rfl, _⟩ := h
  rfl
theorem len_need_programs {Z : Cs} {vs : List V} {H : Hp} {Q : VK} {E : XK} (h : sp_need_programs Z vs H Q E) : vs.length = 1 := by
  obtain ⟨_, _, rfl, _⟩ := h
  rfl
theorem len_need_rule {Z : Cs} {vs : List V} {H : Hp} {Q : VK} {E : XK} (h : sp_need_rule Z vs H Q E) : vs.length = 2 := by
  obtain ⟨_, _, _, rfl, _⟩ := h
  rfl
theorem len_H_init {Z : Cs} {vs : List V} {H : Hp} {Q : VK} {E : XK} (h : sp_H_init Z vs H Q E) : vs.length = 2 := by
  obtain ⟨_, _, _, _, _, rfl, _⟩ := h
  rfl
theorem len_M_init {Z : Cs} {vs : List V} {H : Hp} {Q : VK} {E : XK} (h : sp_M_init Z vs H Q E) : vs.length = 4 := by
  obtain ⟨_, _, _, _, _, _, _, _, rfl, _⟩ := h
  rfl
theorem len_M_need_hand {Z : Cs} {vs : List V} {H : Hp} {Q : VK} {E : XK} (h : sp_M_need_hand Z vs H Q E) : vs.length = 2 := by
  obtain ⟨_, _, _, _, rfl, _⟩ := h
  rfl
theorem len_M_rests {Z : Cs} {vs : List V} {H : Hp} {Q : VK} {E : XK} (h : sp_M_rests Z vs H Q E) : vs.length = 2 := by
  obtain ⟨_, _, _, _, rfl, _⟩ := h
  rfl
theorem len_M_marks {Z : Cs} {vs : List V} {H : Hp} {Q : VK} {E : XK} (h : sp_M_marks Z vs H Q E) : vs.length = 1 := by
  obtain ⟨_, _, rfl, _⟩ := h
  rfl
theorem len_M_taken {Z : Cs} {vs : List V} {H : Hp} {Q : VK} {E : XK} (h : sp_M_taken Z vs H Q E) : vs.length = 2 := by
  obtain ⟨_, _, _, rfl, _⟩ := h
  rfl
theorem len_M_forget {Z : Cs} {vs : List V} {H : Hp} {Q : VK} {E : XK} (h : sp_M_forget Z vs H Q E) : vs.length = 2 := by
  obtain ⟨_, _, _, _, rfl, _⟩ := h
  rfl
theorem len_M_ended {Z : Cs} {vs : List V} {H : Hp} {Q : VK} {E : XK} (h : sp_M_ended Z vs H Q E) : vs.length = 3 := by
  obtain ⟨_, _, _, _, _, rfl, _⟩ := h
  rfl
theorem len_M_read {Z : Cs} {vs : List V} {H : Hp} {Q : VK} {E : XK} (h : sp_M_read Z vs H Q E) : vs.length = 2 := by
  obtain ⟨_, _, _, _, _, rfl, _⟩ := h
  rfl
theorem len_M_exchange {Z : Cs} {vs : List V} {H : Hp} {Q : VK} {E : XK} (h : sp_M_exchange Z vs H Q E) : vs.length = 3 := by
  obtain ⟨_, _, _, _, _, rfl, _⟩ := h
  rfl
theorem len_M_push {Z : Cs} {vs : List V} {H : Hp} {Q : VK} {E : XK} (h : sp_M_push Z vs H Q E) : vs.length = 2 := by
  obtain ⟨_, _, _, _, _, _, rfl, _⟩ := h
  rfl
theorem len_M_guard {Z : Cs} {vs : List V} {H : Hp} {Q : VK} {E : XK} (h : sp_M_guard Z vs H Q E) : vs.length = 3 := by
  obtain ⟨_, _, _, _, _, rfl, _⟩ := h
  rfl
theorem len_M_pop {Z : Cs} {vs : List V} {H : Hp} {Q : VK} {E : XK} (h : sp_M_pop Z vs H Q E) : vs.length = 2 := by
  obtain ⟨_, _, _, _, _, _, rfl, _⟩ := h
  rfl
theorem len_M_turn {Z : Cs} {vs : List V} {H : Hp} {Q : VK} {E : XK} (h : sp_M_turn Z vs H Q E) : vs.length = 2 := by
  obtain ⟨_, _, _, rfl, _⟩ := h
  rfl
theorem len_M_is_done {Z : Cs} {vs : List V} {H : Hp} {Q : VK} {E : XK} (h : sp_M_is_done Z vs H Q E) : vs.length = 1 := by
  obtain ⟨_, _, rfl, _⟩ := h
  rfl
theorem len_M_is_stale {Z : Cs} {vs : List V} {H : Hp} {Q : VK} {E : XK} (h : sp_M_is_stale Z vs H Q E) : vs.length = 1 := by
  obtain ⟨_, _, rfl, _⟩ := h
  rfl
theorem len_M_answers {Z : Cs} {vs : List V} {H : Hp} {Q : VK} {E : XK} (h : sp_M_answers Z vs H Q E) : vs.length = 2 := by
  obtain ⟨_, _, _, _, rfl, _⟩ := h
  rfl
theorem len_M_marked {Z : Cs} {vs : List V} {H : Hp} {Q : VK} {E : XK} (h : sp_M_marked Z vs H Q E) : vs.length = 2 := by
  obtain ⟨_, _, _, _, rfl, _⟩ := h
  rfl
theorem len_M_order {Z : Cs} {vs : List V} {H : Hp} {Q : VK} {E : XK} (h : sp_M_order Z vs H Q E) : vs.length = 1 := by
  obtain ⟨_, _, rfl, _⟩ := h
  rfl
theorem len_M_free {Z : Cs} {vs : List V} {H : Hp} {Q : VK} {E : XK} (h : sp_M_free Z vs H Q E) : vs.length = 1 := by
  obtain ⟨_, _, rfl, _⟩ := h
  rfl
theorem len_M_top_now {Z : Cs} {vs : List V} {H : Hp} {Q : VK} {E : XK} (h : sp_M_top_now Z vs H Q E) : vs.length = 1 := by
  obtain ⟨_, _, rfl, _⟩ := h
  rfl
theorem len_M_nexts {Z : Cs} {vs : List V} {H : Hp} {Q : VK} {E : XK} (h : sp_M_nexts Z vs H Q E) : vs.length = 1 := by
  obtain ⟨_, _, rfl, _⟩ := h
  rfl
theorem len_M_pile {Z : Cs} {vs : List V} {H : Hp} {Q : VK} {E : XK} (h : sp_M_pile Z vs H Q E) : vs.length = 1 := by
  obtain ⟨_, _, rfl, _⟩ := h
  rfl
theorem len_M_pile_values {Z : Cs} {vs : List V} {H : Hp} {Q : VK} {E : XK} (h : sp_M_pile_values Z vs H Q E) : vs.length = 1 := by
  obtain ⟨_, _, rfl, _⟩ := h
  rfl
theorem len_serial {Z : Cs} {vs : List V} {H : Hp} {Q : VK} {E : XK} (h : sp_serial Z vs H Q E) : vs.length = 2 := by
  obtain ⟨_, _, _, _, _, rfl, _⟩ := h
  rfl
theorem len_played {Z : Cs} {vs : List V} {H : Hp} {Q : VK} {E : XK} (h : sp_played Z vs H Q E) : vs.length = 4 := by
  obtain ⟨_, _, _, _, _, _, _, _, rfl, _⟩ := h
  rfl
theorem len_whole {Z : Cs} {vs : List V} {H : Hp} {Q : VK} {E : XK} (h : sp_whole Z vs H Q E) : vs.length = 4 := by
  obtain ⟨_, _, _, _, _, _, _, _, rfl, _⟩ := h
  rfl
theorem len_L_dice {Z : Cs} {vs : List V} {H : Hp} {Q : VK} {E : XK} (h : sp_L_dice Z vs H Q E) : vs.length = 1 := by
  obtain ⟨_, _, rfl, _⟩ := h
  rfl
theorem len_L_next {Z : Cs} {vs : List V} {H : Hp} {Q : VK} {E : XK} (h : sp_L_next Z vs H Q E) : vs.length = 2 := by
  obtain ⟨_, _, rfl, _⟩ := h
  rfl
theorem len_L_values {Z : Cs} {vs : List V} {H : Hp} {Q : VK} {E : XK} (h : sp_L_values Z vs H Q E) : vs.length = 2 := by
  obtain ⟨_, _, rfl, _⟩ := h
  rfl
theorem len_L_deed {Z : Cs} {vs : List V} {H : Hp} {Q : VK} {E : XK} (h : sp_L_deed Z vs H Q E) : vs.length = 1 := by
  obtain ⟨_, rfl, _⟩ := h
  rfl
theorem len_L_programs {Z : Cs} {vs : List V} {H : Hp} {Q : VK} {E : XK} (h : sp_L_programs Z vs H Q E) : vs.length = 3 := by
  obtain ⟨_, _, _, rfl, _⟩ := h
  rfl
theorem len_L_rule {Z : Cs} {vs : List V} {H : Hp} {Q : VK} {E : XK} (h : sp_L_rule Z vs H Q E) : vs.length = 2 := by
  obtain ⟨_, _, rfl, _⟩ := h
  rfl
theorem len_L_weaving {Z : Cs} {vs : List V} {H : Hp} {Q : VK} {E : XK} (h : sp_L_weaving Z vs H Q E) : vs.length = 3 := by
  obtain ⟨_, _, _, rfl, _⟩ := h
  rfl
theorem len_L_case {Z : Cs} {vs : List V} {H : Hp} {Q : VK} {E : XK} (h : sp_L_case Z vs H Q E) : vs.length = 1 := by
  obtain ⟨_, rfl, _⟩ := h
  rfl
theorem len_L_stand {Z : Cs} {vs : List V} {H : Hp} {Q : VK} {E : XK} (h : sp_L_stand Z vs H Q E) : vs.length = 2 := by
  obtain ⟨_, _, _, rfl, _⟩ := h
  rfl
theorem len_is_deedG {Z : Cs} {vs : List V} {H : Hp} {Q : VK} {E : XK} (h : sp_is_deedG Z vs H Q E) : vs.length = 1 := by
  obtain ⟨_, _, rfl, _⟩ := h
  rfl
theorem len_L_told {Z : Cs} {vs : List V} {H : Hp} {Q : VK} {E : XK} (h : sp_L_told Z vs H Q E) : vs.length = 2 := by
  obtain ⟨_, _, _, _, rfl, _⟩ := h
  rfl
theorem len_L_badZ {Z : Cs} {vs : List V} {H : Hp} {Q : VK} {E : XK} (h : sp_L_badZ Z vs H Q E) : vs.length = 2 := by
  obtain ⟨_, _, _, rfl, _⟩ := h
  rfl

end SS
set_option Elab.async false
set_option linter.all false
set_option maxRecDepth 100000
set_option maxHeartbeats 0
namespace SR
open PySem PySem.Spec PyProof.Rows L2 SS
def top (i : Nat) : Stmt := PySem.Challenge.pw_stalestack_k02_none_such.main.body.getD i (.Pass ⟨0, 0, 0, 0⟩)
abbrev s_BadPile_init : Stmt := inClass (top 3) 0
def d_BadPile_init : He.DefD := ⟨("BadPile", some "__init__"), "__init__", "BadPile.__init__", defArgs s_BadPile_init, defBody s_BadPile_init, defScope s_BadPile_init, [], []⟩
abbrev s_BadDeed_init : Stmt := inClass (top 4) 0
def d_BadDeed_init : He.DefD := ⟨("BadDeed", some "__init__"), "__init__", "BadDeed.__init__", defArgs s_BadDeed_init, defBody s_BadDeed_init, defScope s_BadDeed_init, [], []⟩
abbrev s_L_dice : Stmt := top 30
def d_L_dice : He.DefD := ⟨("_law_dice", none), "_law_dice", "_law_dice", defArgs s_L_dice, defBody s_L_dice, defScope s_L_dice, [], []⟩
abbrev s_L_next : Stmt := top 31
def d_L_next : He.DefD := ⟨("_law_next", none), "_law_next", "_law_next", defArgs s_L_next, defBody s_L_next, defScope s_L_next, [], []⟩
abbrev s_L_values : Stmt := top 33
def d_L_values : He.DefD := ⟨("_law_values", none), "_law_values", "_law_values", defArgs s_L_values, defBody s_L_values, defScope s_L_values, [], []⟩
abbrev s_L_deed : Stmt := top 34
def d_L_deed : He.DefD := ⟨("_law_deed", none), "_law_deed", "_law_deed", defArgs s_L_deed, defBody s_L_deed, defScope s_L_deed, [], []⟩
abbrev s_L_programs : Stmt := top 35
def d_L_programs : He.DefD := ⟨("_law_programs", none), "_law_programs", "_law_programs", defArgs s_L_programs, defBody s_L_programs, defScope s_L_programs, [], []⟩
abbrev s_L_rule : Stmt := top 36
def d_L_rule : He.DefD := ⟨("_law_rule", none), "_law_rule", "_law_rule", defArgs s_L_rule, defBody s_L_rule, defScope s_L_rule, [], []⟩
abbrev s_need_values : Stmt := top 13
def d_need_values : He.DefD := ⟨("need_values", none), "need_values", "need_values", defArgs s_need_values, defBody s_need_values, defScope s_need_values, [], []⟩
abbrev s_is_deed : Stmt := top 14
def d_is_deed : He.DefD := ⟨("is_deed", none), "is_deed", "is_deed", defArgs s_is_deed, defBody s_is_deed, defScope s_is_deed, [], []⟩
abbrev s_need_deeds : Stmt := top 15
def d_need_deeds : He.DefD := ⟨("need_deeds", none), "need_deeds", "need_deeds", defArgs s_need_deeds, defBody s_need_deeds, defScope s_need_deeds, [], []⟩
abbrev s_need_programs : Stmt := top 16
def d_need_programs : He.DefD := ⟨("need_programs", none), "need_programs", "need_programs", defArgs s_need_programs, defBody s_need_programs, defScope s_need_programs, [], []⟩
abbrev s_need_rule : Stmt := top 17
def d_need_rule : He.DefD := ⟨("need_rule", none), "need_rule", "need_rule", defArgs s_need_rule, defBody s_need_rule, defScope s_need_rule, [], []⟩
abbrev s_H_init : Stmt := inClass (top 19) 0
def d_H_init : He.DefD := ⟨("Hand", some "__init__"), "__init__", "Hand.__init__", defArgs s_H_init, defBody s_H_init, defScope s_H_init, [], []⟩
abbrev s_M_init : Stmt := inClass (top 20) 0
def d_M_init : He.DefD := ⟨("Machine", some "__init__"), "__init__", "Machine.__init__", defArgs s_M_init, defBody s_M_init, defScope s_M_init, [], []⟩
abbrev s_M_need_hand : Stmt := inClass (top 20) 3
def d_M_need_hand : He.DefD := ⟨("Machine", some "need_hand"), "need_hand", "Machine.need_hand", defArgs s_M_need_hand, defBody s_M_need_hand, defScope s_M_need_hand, [], []⟩
abbrev s_M_answers : Stmt := inClass (top 20) 7
def d_M_answers : He.DefD := ⟨("Machine", some "answers"), "answers", "Machine.answers", defArgs s_M_answers, defBody s_M_answers, defScope s_M_answers, [], []⟩
abbrev s_L_like : Stmt := top 32
def d_L_like : He.DefD := ⟨("_law_like", none), "_law_like", "_law_like", defArgs s_L_like, defBody s_L_like, defScope s_L_like, [], []⟩
abbrev s_M_order : Stmt := inClass (top 20) 9
def d_M_order : He.DefD := ⟨("Machine", some "order"), "order", "Machine.order", defArgs s_M_order, defBody s_M_order, defScope s_M_order, [], []⟩
abbrev s_M_marked : Stmt := inClass (top 20) 8
def d_M_marked : He.DefD := ⟨("Machine", some "marked"), "marked", "Machine.marked", defArgs s_M_marked, defBody s_M_marked, defScope s_M_marked, [], []⟩
abbrev s_L_bad : Stmt := top 40
def d_L_bad : He.DefD := ⟨("_law_bad", none), "_law_bad", "_law_bad", defArgs s_L_bad, defBody s_L_bad, defScope s_L_bad, [], []⟩
abbrev s_L_works : Stmt := top 41
def d_L_works : He.DefD := ⟨("_law_works", none), "_law_works", "_law_works", defArgs s_L_works, defBody s_L_works, defScope s_L_works, [], []⟩
abbrev s_M_rests : Stmt := inClass (top 20) 4
def d_M_rests : He.DefD := ⟨("Machine", some "rests"), "rests", "Machine.rests", defArgs s_M_rests, defBody s_M_rests, defScope s_M_rests, [], []⟩
abbrev s_M_marks : Stmt := inClass (top 20) 15
def d_M_marks : He.DefD := ⟨("Machine", some "marks"), "marks", "Machine.marks", defArgs s_M_marks, defBody s_M_marks, defScope s_M_marks, [], []⟩
abbrev s_M_taken : Stmt := inClass (top 20) 16
def d_M_taken : He.DefD := ⟨("Machine", some "taken"), "taken", "Machine.taken", defArgs s_M_taken, defBody s_M_taken, defScope s_M_taken, [], []⟩
abbrev s_M_forget : Stmt := inClass (top 20) 20
def d_M_forget : He.DefD := ⟨("Machine", some "forget"), "forget", "Machine.forget", defArgs s_M_forget, defBody s_M_forget, defScope s_M_forget, [], []⟩
abbrev s_M_ended : Stmt := inClass (top 20) 19
def d_M_ended : He.DefD := ⟨("Machine", some "ended"), "ended", "Machine.ended", defArgs s_M_ended, defBody s_M_ended, defScope s_M_ended, [], []⟩
abbrev s_M_read : Stmt := inClass (top 20) 18
def d_M_read : He.DefD := ⟨("Machine", some "read"), "read", "Machine.read", defArgs s_M_read, defBody s_M_read, defScope s_M_read, [], []⟩
abbrev s_M_exchange : Stmt := inClass (top 20) 21
def d_M_exchange : He.DefD := ⟨("Machine", some "exchange"), "exchange", "Machine.exchange", defArgs s_M_exchange, defBody s_M_exchange, defScope s_M_exchange, [], []⟩
abbrev s_M_push : Stmt := inClass (top 20) 22
def d_M_push : He.DefD := ⟨("Machine", some "push"), "push", "Machine.push", defArgs s_M_push, defBody s_M_push, defScope s_M_push, [], []⟩
abbrev s_M_guard : Stmt := inClass (top 20) 24
def d_M_guard : He.DefD := ⟨("Machine", some "guard"), "guard", "Machine.guard", defArgs s_M_guard, defBody s_M_guard, defScope s_M_guard, [], []⟩
abbrev s_M_pop : Stmt := inClass (top 20) 23
def d_M_pop : He.DefD := ⟨("Machine", some "pop"), "pop", "Machine.pop", defArgs s_M_pop, defBody s_M_pop, defScope s_M_pop, [], []⟩
abbrev s_M_turn : Stmt := inClass (top 20) 17
def d_M_turn : He.DefD := ⟨("Machine", some "turn"), "turn", "Machine.turn", defArgs s_M_turn, defBody s_M_turn, defScope s_M_turn, [], []⟩
abbrev s_played : Stmt := top 27
def d_played : He.DefD := ⟨("played", none), "played", "played", defArgs s_played, defBody s_played, defScope s_played, [], []⟩
abbrev s_whole : Stmt := top 28
def d_whole : He.DefD := ⟨("whole", none), "whole", "whole", defArgs s_whole, defBody s_whole, defScope s_whole, [], []⟩
abbrev s_stale : Stmt := top 22
def d_stale : He.DefD := ⟨("stale", none), "stale", "stale", defArgs s_stale, defBody s_stale, defScope s_stale, [], []⟩
abbrev s_least_marks : Stmt := top 25
def d_least_marks : He.DefD := ⟨("least_marks", none), "least_marks", "least_marks", defArgs s_least_marks, defBody s_least_marks, defScope s_least_marks, [], []⟩
abbrev s_safe_counts : Stmt := top 23
def d_safe_counts : He.DefD := ⟨("safe_counts", none), "safe_counts", "safe_counts", defArgs s_safe_counts, defBody s_safe_counts, defScope s_safe_counts, [], []⟩
abbrev s_L_is : Stmt := top 38
def d_L_is : He.DefD := ⟨("_law_is", none), "_law_is", "_law_is", defArgs s_L_is, defBody s_L_is, defScope s_L_is, [], []⟩
abbrev s_L_told : Stmt := top 39
def d_L_told : He.DefD := ⟨("_law_told", none), "_law_told", "_law_told", defArgs s_L_told, defBody s_L_told, defScope s_L_told, [], []⟩
abbrev s_L_all : Stmt := top 42
def d_L_all : He.DefD := ⟨("_law_all", none), "_law_all", "_law_all", defArgs s_L_all, defBody s_L_all, defScope s_L_all, [], []⟩
abbrev s_law : Stmt := top 43
def d_law : He.DefD := ⟨("law", none), "law", "law", defArgs s_law, defBody s_law, defScope s_law, [], []⟩
def fn : List He.DefD := [d_BadPile_init, d_BadDeed_init, d_L_dice, d_L_next, d_L_values, d_L_deed, d_L_programs, d_L_rule, d_need_values, d_is_deed, d_need_deeds, d_need_programs, d_need_rule, d_H_init, d_M_init, d_M_need_hand, d_M_answers, d_L_like, d_M_order, d_M_marked, d_L_bad, d_L_works, d_M_rests, d_M_marks, d_M_taken, d_M_forget, d_M_ended, d_M_read, d_M_exchange, d_M_push, d_M_guard, d_M_pop, d_M_turn, d_played, d_whole, d_stale, d_least_marks, d_safe_counts, d_L_is, d_L_told, d_L_all, d_law]
def fa : List He.Fa := [.cls "Machine", .cls "Hand", .mkr "Machine", .mkr "Hand", .noat "Machine" "rule", .noat "Machine" "worths", .noat "Machine" "links", .noat "Machine" "top", .noat "Machine" "count", .noat "Machine" "freed", .noat "Machine" "hands", .noat "Machine" "ends", .noat "Machine" "strayed", .noat "Hand" "program", .noat "Hand" "at", .noat "Hand" "cell", .noat "Hand" "seen", .noat "Hand" "follow", .noat "Hand" "mark", .noat "Hand" "looked", .noat "Hand" "said", .glo "Machine", .glo "Hand", .glo "_law_dice", .free "len", .free "int", .glo "_law_next", .glo "_law_values", .free "range", .glo "_law_deed", .glo "_law_programs", .glo "_law_rule", .free "tuple", .glo "need_values", .int "MOST_VALUES" 6, .int "MOST_VALUE" 99, .glo "is_deed", .glo "need_deeds", .glo "need_programs", .int "MOST_HANDS" 3, .int "MOST_DEEDS" 4, .glo "need_rule", .int "MOST_COUNTS" 15, .free "list", .meth "Machine" "need_hand", .meth "Machine" "answers", .glo "_law_like", .free "isinstance", .free "bool", .free "str", .free "dict", .meth "Machine" "order", .meth "Machine" "marked", .glo "_law_bad", .glo "_law_works", .meth "Machine" "rests", .meth "Machine" "marks", .meth "Machine" "taken", .meth "Machine" "forget", .meth "Machine" "ended", .meth "Machine" "read", .meth "Machine" "exchange", .meth "Machine" "push", .meth "Machine" "guard", .meth "Machine" "pop", .meth "Machine" "turn", .glo "played", .glo "whole", .glo "stale", .glo "least_marks", .glo "safe_counts", .glo "_law_is", .glo "_law_told", .glo "_law_all", .glo "law", .free "min", .glo "BadDeed", .glo "BadPile", .glo "BadRule", .glo "NoHand", .glo "PileError", .meth "BadDeed" "__init__", .meth "BadPile" "__init__", .noat "BadDeed" "hand", .noat "BadDeed" "number", .noat "BadPile" "at", .exm "BadDeed" "PileError" true, .exm "BadPile" "PileError" true, .free "ValueError", .exm "BadRule" "PileError" true, .exm "NoHand" "PileError" true]
theorem sc_BadPile_init : FnScope ["self", "at"] ["self", "at"] (defScope s_BadPile_init) := ⟨rfl, rfl, rfl, by decide +kernel, rfl, by decide +kernel, by decide +kernel⟩
theorem sc_BadDeed_init : FnScope ["self", "hand", "number"] ["self", "hand", "number"] (defScope s_BadDeed_init) := ⟨rfl, rfl, rfl, by decide +kernel, rfl, by decide +kernel, by decide +kernel⟩
theorem sc_L_dice : FnScope ["_law_script", "_law_mixed", "_law_cell"] ["_law_script"] (defScope s_L_dice) := ⟨rfl, rfl, rfl, by decide +kernel, rfl, by decide +kernel, by decide +kernel⟩
theorem sc_L_next : FnScope ["_law_dice_here", "_law_many", "_law_found", "_law_cell"] ["_law_dice_here", "_law_many"] (defScope s_L_next) := ⟨rfl, rfl, rfl, by decide +kernel, rfl, by decide +kernel, by decide +kernel⟩
theorem sc_L_values : FnScope ["_law_d", "_law_most", "_law_k"] ["_law_d", "_law_most"] (defScope s_L_values) := ⟨rfl, rfl, rfl, by decide +kernel, rfl, by decide +kernel, by decide +kernel⟩
theorem sc_L_deed : FnScope ["_law_d"] ["_law_d"] (defScope s_L_deed) := ⟨rfl, rfl, rfl, by decide +kernel, rfl, by decide +kernel, by decide +kernel⟩
theorem sc_L_programs : FnScope ["_law_d", "_law_hands", "_law_deeds", "_law_rows", "_law_k", "_law_hand"] ["_law_d", "_law_hands", "_law_deeds"] (defScope s_L_programs) := ⟨rfl, rfl, rfl, by decide +kernel, rfl, by decide +kernel, by decide +kernel⟩
theorem sc_L_rule : FnScope ["_law_d", "_law_many", "_law_kind", "_law_hand"] ["_law_d", "_law_many"] (defScope s_L_rule) := ⟨rfl, rfl, rfl, by decide +kernel, rfl, by decide +kernel, by decide +kernel⟩
theorem sc_need_values : FnScope ["values", "at"] ["values"] (defScope s_need_values) := ⟨rfl, rfl, rfl, by decide +kernel, rfl, by decide +kernel, by decide +kernel⟩
theorem sc_is_deed : FnScope ["deed"] ["deed"] (defScope s_is_deed) := ⟨rfl, rfl, rfl, by decide +kernel, rfl, by decide +kernel, by decide +kernel⟩
theorem sc_need_deeds : FnScope ["deeds", "hand", "number"] ["deeds", "hand"] (defScope s_need_deeds) := ⟨rfl, rfl, rfl, by decide +kernel, rfl, by decide +kernel, by decide +kernel⟩
theorem sc_need_programs : FnScope ["programs", "hand"] ["programs"] (defScope s_need_programs) := ⟨rfl, rfl, rfl, by decide +kernel, rfl, by decide +kernel, by decide +kernel⟩
theorem sc_need_rule : FnScope ["rule", "many", "at"] ["rule", "many"] (defScope s_need_rule) := ⟨rfl, rfl, rfl, by decide +kernel, rfl, by decide +kernel, by decide +kernel⟩
theorem sc_H_init : FnScope ["self", "program"] ["self", "program"] (defScope s_H_init) := ⟨rfl, rfl, rfl, by decide +kernel, rfl, by decide +kernel, by decide +kernel⟩
theorem sc_M_init : FnScope ["self", "values", "programs", "rule", "program"] ["self", "values", "programs", "rule"] (defScope s_M_init) := ⟨rfl, rfl, rfl, by decide +kernel, rfl, by decide +kernel, by decide +kernel⟩
theorem sc_M_need_hand : FnScope ["self", "hand"] ["self", "hand"] (defScope s_M_need_hand) := ⟨rfl, rfl, rfl, by decide +kernel, rfl, by decide +kernel, by decide +kernel⟩
theorem sc_M_answers : FnScope ["self", "hand"] ["self", "hand"] (defScope s_M_answers) := ⟨rfl, rfl, rfl, by decide +kernel, rfl, by decide +kernel, by decide +kernel⟩
theorem sc_L_like : FnScope ["_law_found", "_law_due", "_law_key", "_law_k"] ["_law_found", "_law_due"] (defScope s_L_like) := ⟨rfl, rfl, rfl, by decide +kernel, rfl, by decide +kernel, by decide +kernel⟩
theorem sc_M_order : FnScope ["self"] ["self"] (defScope s_M_order) := ⟨rfl, rfl, rfl, by decide +kernel, rfl, by decide +kernel, by decide +kernel⟩
theorem sc_M_marked : FnScope ["self", "hand"] ["self", "hand"] (defScope s_M_marked) := ⟨rfl, rfl, rfl, by decide +kernel, rfl, by decide +kernel, by decide +kernel⟩
theorem sc_L_bad : FnScope ["_law_d", "_law_programs_here", "_law_kind", "_law_hand", "_law_behind", "_law_row", "_law_at", "_law_odd"] ["_law_d", "_law_programs_here"] (defScope s_L_bad) := ⟨rfl, rfl, rfl, by decide +kernel, rfl, by decide +kernel, by decide +kernel⟩
theorem sc_L_works : FnScope ["_law_values_here", "_law_programs_here", "_law_rule_here", "_law_works_here"] ["_law_values_here", "_law_programs_here", "_law_rule_here"] (defScope s_L_works) := ⟨rfl, rfl, rfl, by decide +kernel, rfl, by decide +kernel, by decide +kernel⟩
theorem sc_M_rests : FnScope ["self", "hand"] ["self", "hand"] (defScope s_M_rests) := ⟨rfl, rfl, rfl, by decide +kernel, rfl, by decide +kernel, by decide +kernel⟩
theorem sc_M_marks : FnScope ["self", "hand"] ["self"] (defScope s_M_marks) := ⟨rfl, rfl, rfl, by decide +kernel, rfl, by decide +kernel, by decide +kernel⟩
theorem sc_M_taken : FnScope ["self", "value", "cell"] ["self", "value"] (defScope s_M_taken) := ⟨rfl, rfl, rfl, by decide +kernel, rfl, by decide +kernel, by decide +kernel⟩
theorem sc_M_forget : FnScope ["self", "hand", "one"] ["self", "hand"] (defScope s_M_forget) := ⟨rfl, rfl, rfl, by decide +kernel, rfl, by decide +kernel, by decide +kernel⟩
theorem sc_M_ended : FnScope ["self", "hand", "answer", "one"] ["self", "hand", "answer"] (defScope s_M_ended) := ⟨rfl, rfl, rfl, by decide +kernel, rfl, by decide +kernel, by decide +kernel⟩
theorem sc_M_read : FnScope ["self", "hand", "one"] ["self", "hand"] (defScope s_M_read) := ⟨rfl, rfl, rfl, by decide +kernel, rfl, by decide +kernel, by decide +kernel⟩
theorem sc_M_exchange : FnScope ["self", "hand", "cell"] ["self", "hand", "cell"] (defScope s_M_exchange) := ⟨rfl, rfl, rfl, by decide +kernel, rfl, by decide +kernel, by decide +kernel⟩
theorem sc_M_push : FnScope ["self", "hand", "one"] ["self", "hand"] (defScope s_M_push) := ⟨rfl, rfl, rfl, by decide +kernel, rfl, by decide +kernel, by decide +kernel⟩
theorem sc_M_guard : FnScope ["self", "hand", "cell", "one"] ["self", "hand", "cell"] (defScope s_M_guard) := ⟨rfl, rfl, rfl, by decide +kernel, rfl, by decide +kernel, by decide +kernel⟩
theorem sc_M_pop : FnScope ["self", "hand", "one", "cell", "follow"] ["self", "hand"] (defScope s_M_pop) := ⟨rfl, rfl, rfl, by decide +kernel, rfl, by decide +kernel, by decide +kernel⟩
theorem sc_M_turn : FnScope ["self", "hand", "one", "deed"] ["self", "hand"] (defScope s_M_turn) := ⟨rfl, rfl, rfl, by decide +kernel, rfl, by decide +kernel, by decide +kernel⟩
theorem sc_played : FnScope ["values", "programs", "rule", "weaving", "machine", "hand"] ["values", "programs", "rule", "weaving"] (defScope s_played) := ⟨rfl, rfl, rfl, by decide +kernel, rfl, by decide +kernel, by decide +kernel⟩
theorem sc_whole : FnScope ["values", "programs", "rule", "weaving", "machine", "hand", "answers"] ["values", "programs", "rule", "weaving"] (defScope s_whole) := ⟨rfl, rfl, rfl, by decide +kernel, rfl, by decide +kernel, by decide +kernel⟩
theorem sc_stale : FnScope ["values", "programs", "rule", "first", "met", "level", "behind", "weaving", "machine", "hand", "other"] ["values", "programs", "rule"] (defScope s_stale) := ⟨rfl, rfl, rfl, by decide +kernel, rfl, by decide +kernel, by decide +kernel⟩
theorem sc_least_marks : FnScope ["values", "programs", "some"] ["values", "programs"] (defScope s_least_marks) := ⟨rfl, rfl, rfl, by decide +kernel, rfl, by decide +kernel, by decide +kernel⟩
theorem sc_safe_counts : FnScope ["values", "programs", "many"] ["values", "programs"] (defScope s_safe_counts) := ⟨rfl, rfl, rfl, by decide +kernel, rfl, by decide +kernel, by decide +kernel⟩
theorem sc_L_is : FnScope ["_law_e", "_law_word", "_law_kinds", "_law_words", "_law_one"] ["_law_e", "_law_word"] (defScope s_L_is) := ⟨rfl, rfl, rfl, by decide +kernel, rfl, by decide +kernel, by decide +kernel⟩
theorem sc_L_told : FnScope ["_law_work", "_law_e", "_law_word"] ["_law_work"] (defScope s_L_told) := ⟨rfl, rfl, rfl, by decide +kernel, rfl, by decide +kernel, by decide +kernel⟩
theorem sc_L_all : FnScope ["_law_works_here", "_law_due", "_law_work"] ["_law_works_here", "_law_due"] (defScope s_L_all) := ⟨rfl, rfl, rfl, by decide +kernel, rfl, by decide +kernel, by decide +kernel⟩
theorem sc_law : FnScope ["_law_script", "_law_d", "_law_values_here", "_law_programs_here", "_law_many", "_law_rule_here", "_law_machine", "_law_hand", "_law_rows", "_law_number", "_law_none", "_law_odd", "_law_bad_here", "_law_works_here", "_law_out"] ["_law_script"] (defScope s_law) := ⟨rfl, rfl, rfl, by decide +kernel, rfl, by decide +kernel, by decide +kernel⟩
abbrev ZZ (K : PySem.W.Frag) : Cs := ⟨K, He.ga K "Hand", He.ga K "Machine"⟩
def OkF (P : Program) (w : World) (K : PySem.W.Frag) (mg : Str → Option Value) (d : He.DefD) (k : Nat) (ps : List Str) (sp : Sp) : Prop := ∃ fd, (∀ base, FnOk P w K mg base CX0 k (He.fAd K d.at_) fd ps sp) ∧ Binds K fd ps [] ∧ PySem.W.keepIn K (.ref (He.fAd K d.at_)) = true ∧ FunD K d.name d.qual d.params d.body d.scope (d.dvs K) (d.kws K) (He.fAd K d.at_) fd
section
variable {P : Program} {w : World} {K : PySem.W.Frag} {mg : Str → Option Value} {h : Heap}
theorem zok (c : He.SaysD fa fn K) : ZOk (ZZ K) := ⟨He.cls_ok (c.fact 0 (f := .cls "Machine") rfl), He.cls_ok (c.fact 1 (f := .cls "Hand") rfl), He.noat_ok (c.fact 4 (f := .noat "Machine" "rule") rfl), He.noat_ok (c.fact 5 (f := .noat "Machine" "worths") rfl), He.noat_ok (c.fact 6 (f := .noat "Machine" "links") rfl), He.noat_ok (c.fact 7 (f := .noat "Machine" "top") rfl), He.noat_ok (c.fact 8 (f := .noat "Machine" "count") rfl), He.noat_ok (c.fact 9 (f := .noat "Machine" "freed") rfl), He.noat_ok (c.fact 10 (f := .noat "Machine" "hands") rfl), He.noat_ok (c.fact 11 (f := .noat "Machine" "ends") rfl), He.noat_ok (c.fact 12 (f := .noat "Machine" "strayed") rfl), He.noat_ok (c.fact 13 (f := .noat "Hand" "program") rfl), He.noat_ok (c.fact 14 (f := .noat "Hand" "at") rfl), He.noat_ok (c.fact 15 (f := .noat "Hand" "cell") rfl), He.noat_ok (c.fact 16 (f := .noat "Hand" "seen") rfl), He.noat_ok (c.fact 17 (f := .noat "Hand" "follow") rfl), He.noat_ok (c.fact 18 (f := .noat "Hand" "mark") rfl), He.noat_ok (c.fact 19 (f := .noat "Hand" "looked") rfl), He.noat_ok (c.fact 20 (f := .noat "Hand" "said") rfl)⟩
theorem bpc_of (e : SX.ExK K) (c : He.SaysD fa fn K) : BpC K (He.ga K "BadPile") := ⟨e.bp.1, He.noat_ok (c.fact 85 (f := .noat "BadPile" "at") rfl)⟩
theorem bdc_of (e : SX.ExK K) (c : He.SaysD fa fn K) : BdC K (He.ga K "BadDeed") := ⟨e.bd.1, He.noat_ok (c.fact 83 (f := .noat "BadDeed" "hand") rfl), He.noat_ok (c.fact 84 (f := .noat "BadDeed" "number") rfl)⟩
theorem ok_BadPile (X : K.In h) (G : h.Ns mainGlobals mg) (c : He.SaysD fa fn K) (e : SX.ExK K) : OkF P w K mg d_BadPile_init 1 ["self", "at"] (sp_BadPile (He.ga K "BadPile")) := by
  obtain ⟨fd, F0⟩ := c.def_ 0 (d := d_BadPile_init) rfl
  have F : FunD K "__init__" "BadPile.__init__" (defArgs s_BadPile_init) (defBody s_BadPile_init) (defScope s_BadPile_init) [] [] (He.fAd K ("BadPile", some "__init__")) fd := F0
  have g_PileError : mg "PileError" = some (.ref (He.ga K "PileError")) := He.glo_ok X G (c.fact 80 (f := .glo "PileError") rfl)
  refine ⟨fd, fun base => ?_, F.bindsN (fun _ _ _ _ _ _ us hl => match us, hl with | [_, _], _ => rfl), F0.kp, F0⟩
  refine F.ok sc_BadPile_init (fun vs H Q E h => by obtain ⟨_, _, rfl, _⟩ := h; rfl) (fun cdv A outer s H vs Q E hr h => ⟨t_BadPile K, PSs.nox ?_, pure_BadPile (bpc_of e c) vs H Q E h⟩)
  exact pss_cons (ps_expr (pe_ownbase (mc := .type "type") (CB := He.ga K "PileError") rfl g_PileError e.pe.gA e.pe.rd e.pe.vV (pa_cons (pv 0) (pa_cons pe_str pa_nil)))) (pss_one (ps_ost (pv 0) (pv 1)))
theorem ok_BadDeed (X : K.In h) (G : h.Ns mainGlobals mg) (c : He.SaysD fa fn K) (e : SX.ExK K) : OkF P w K mg d_BadDeed_init 1 ["self", "hand", "number"] (sp_BadDeed (He.ga K "BadDeed")) := by
  obtain ⟨fd, F0⟩ := c.def_ 1 (d := d_BadDeed_init) rfl
  have F : FunD K "__init__" "BadDeed.__init__" (defArgs s_BadDeed_init) (defBody s_BadDeed_init) (defScope s_BadDeed_init) [] [] (He.fAd K ("BadDeed", some "__init__")) fd := F0
  have g_PileError : mg "PileError" = some (.ref (He.ga K "PileError")) := He.glo_ok X G (c.fact 80 (f := .glo "PileError") rfl)
  refine ⟨fd, fun base => ?_, F.bindsN (fun _ _ _ _ _ _ us hl => match us, hl with | [_, _, _], _ => rfl), F0.kp, F0⟩
  refine F.ok sc_BadDeed_init (fun vs H Q E h => by obtain ⟨_, _, _, rfl, _⟩ := h; rfl) (fun cdv A outer s H vs Q E hr h => ⟨t_BadDeed K, PSs.nox ?_, pure_BadDeed (bdc_of e c) vs H Q E h⟩)
  exact pss_cons (ps_expr (pe_ownbase (mc := .type "type") (CB := He.ga K "PileError") rfl g_PileError e.pe.gA e.pe.rd e.pe.vV (pa_cons (pv 0) (pa_cons pe_str pa_nil)))) (pss_cons (ps_ost (pv 0) (pv 1)) (pss_one (ps_ost (pv 0) (pv 2))))
theorem ok_L_dice (X : K.In h) (G : h.Ns mainGlobals mg) (c : He.SaysD fa fn K) : OkF P w K mg d_L_dice 1 ["_law_script"] (sp_L_dice (ZZ K)) := by
  obtain ⟨fd, F0⟩ := c.def_ 2 (d := d_L_dice) rfl
  have F : FunD K "_law_dice" "_law_dice" (defArgs s_L_dice) (defBody s_L_dice) (defScope s_L_dice) [] [] (He.fAd K ("_law_dice", none)) fd := F0
  have f_len : mg "len" = none := He.free_ok X G (c.fact 24 (f := .free "len") rfl)
  have f_int : mg "int" = none := He.free_ok X G (c.fact 25 (f := .free "int") rfl)
  refine ⟨fd, fun base => ?_, F.bindsN (fun _ _ _ _ _ _ us hl => match us, hl with | [_], _ => rfl), F0.kp, F0⟩
  refine F.ok sc_L_dice (fun vs H Q E h => len_L_dice h) (fun cdv A outer s H vs Q E hr h => ⟨t_L_dice (ZZ K), PSs.nox ?_, pure_L_dice vs H Q E h⟩)
  exact pss_cons (ps_set (i := 1) sc_L_dice.nd rfl (Or.inl rfl) pe_int)
      (pss_cons (ps_for PassesOwn.never rfl (pi_list (pv 0)) (pg_name (i := 2) sc_L_dice.nd rfl (Or.inl rfl)) (pss_one (ps_set (i := 1) sc_L_dice.nd rfl (Or.inl rfl) (pe_op op_mod (pe_op op_add (pe_op op_add (pe_op op_mul (pv 1) pe_int) (pe_op op_mul (pe_op op_mod (pv 2) pe_int) pe_int)) pe_int) pe_int))))
      (pss_one (ps_ret (pe_lst (pa_cons (pv 0) (pa_cons pe_int (pa_cons (pe_op op_mul (pv 1) (pe_callTy call_int1 rfl f_int (by decide +kernel) (pa_cons (pe_cmpR op_gt (pe_callB call_len_seq rfl f_len PySem.boot_len (pa_cons (pv 0) pa_nil)) pe_int (nomark _)) pa_nil))) (pa_cons pe_int pa_nil))))))))
theorem ok_L_next (X : K.In h) (G : h.Ns mainGlobals mg) (c : He.SaysD fa fn K) : OkF P w K mg d_L_next 1 ["_law_dice_here", "_law_many"] (sp_L_next (ZZ K)) := by
  obtain ⟨fd, F0⟩ := c.def_ 3 (d := d_L_next) rfl
  have F : FunD K "_law_next" "_law_next" (defArgs s_L_next) (defBody s_L_next) (defScope s_L_next) [] [] (He.fAd K ("_law_next", none)) fd := F0
  have f_len : mg "len" = none := He.free_ok X G (c.fact 24 (f := .free "len") rfl)
  refine ⟨fd, fun base => ?_, F.bindsN (fun _ _ _ _ _ _ us hl => match us, hl with | [_, _], _ => rfl), F0.kp, F0⟩
  refine F.ok sc_L_next (fun vs H Q E h => len_L_next h) (fun cdv A outer s H vs Q E hr h => ⟨t_L_next (ZZ K), PSs.nox ?_, pure_L_next vs H Q E h⟩)
  exact pss_cons (ps_if (pt_cmpR op_gt (pe_ix ix_list (pv 0) pe_int (fun _ _ => rfl)) pe_int (nomark _)) (pss_cons (ps_set (i := 2) sc_L_next.nd rfl (Or.inl rfl) (pe_op op_mod (pe_ix ix_list (pv 0) pe_int (fun _ _ => rfl)) (pv 1)))
      (pss_cons (ps_asg (pe_op op_fdiv (pe_ix ix_list (pv 0) pe_int (fun _ _ => rfl)) (pv 1)) (pg_sub (pv 0) pe_int set_list))
      (pss_one (ps_ret (pv 2))))) (pss_nil))
      (pss_cons (ps_asg (pe_op op_add (pe_ix ix_list (pv 0) pe_int (fun _ _ => rfl)) pe_int) (pg_sub (pv 0) pe_int set_list))
      (pss_cons (ps_if (pt_cmpR op_le (pe_ix ix_list (pv 0) pe_int (fun _ _ => rfl)) (pe_callB call_len_seq rfl f_len PySem.boot_len (pa_cons (pe_ix ix_list (pv 0) pe_int (fun _ _ => rfl)) pa_nil)) (nomark _)) (pss_cons (ps_set (i := 3) sc_L_next.nd rfl (Or.inl rfl) (pe_ix ix_list (pe_ix ix_list (pv 0) pe_int (fun _ _ => rfl)) (pe_op op_sub (pe_ix ix_list (pv 0) pe_int (fun _ _ => rfl)) pe_int) (fun _ _ => rfl)))
      (pss_cons (ps_asg (pe_ifExp (pt_cmpR op_ge (pv 3) (pe_op op_pow pe_int pe_int) (nomark _)) (pe_op op_fdiv (pv 3) (pv 1)) pe_int) (pg_sub (pv 0) pe_int set_list))
      (pss_one (ps_ret (pe_op op_mod (pv 3) (pv 1)))))) (pss_nil))
      (pss_cons (ps_asg (pe_op op_mod (pe_op op_mul (pe_ix ix_list (pv 0) pe_int (fun _ _ => rfl)) pe_int) pe_int) (pg_sub (pv 0) pe_int set_list))
      (pss_one (ps_ret (pe_op op_mod (pe_op op_fdiv (pe_ix ix_list (pv 0) pe_int (fun _ _ => rfl)) pe_int) (pv 1)))))))
theorem ok_L_values (X : K.In h) (G : h.Ns mainGlobals mg) (c : He.SaysD fa fn K) : OkF P w K mg d_L_values 2 ["_law_d", "_law_most"] (sp_L_values (ZZ K)) := by
  obtain ⟨fd, F0⟩ := c.def_ 4 (d := d_L_values) rfl
  have F : FunD K "_law_values" "_law_values" (defArgs s_L_values) (defBody s_L_values) (defScope s_L_values) [] [] (He.fAd K ("_law_values", none)) fd := F0
  obtain ⟨fd_L_next, GA_L_next, b_L_next, k_L_next, _⟩ := ok_L_next (P := P) (w := w) X G c
  have g_L_next : mg "_law_next" = some (.ref (He.ga K "_law_next")) := He.glo_ok X G (c.fact 26 (f := .glo "_law_next") rfl)
  have f_range : mg "range" = none := He.free_ok X G (c.fact 28 (f := .free "range") rfl)
  refine ⟨fd, fun base => ?_, F.bindsN (fun _ _ _ _ _ _ us hl => match us, hl with | [_, _], _ => rfl), F0.kp, F0⟩
  have G_L_next := GA_L_next base
  refine F.ok sc_L_values (fun vs H Q E h => len_L_values h) (fun cdv A outer s H vs Q E hr h => ⟨t_L_values (ZZ K), PSs.nox ?_, pure_L_values vs H Q E h⟩)
  exact pss_one (ps_ret (pe_lc (own := [("_law_k", 2)]) rfl sc_L_values.nd (pi_range1 rfl f_range (pa_cons (pe_call G_L_next (hr.mono (by decide)) rfl g_L_next k_L_next b_L_next .nil pass0 (pa_cons (pv 0) (pa_cons (pe_op op_add (pv 1) pe_int) pa_nil))) pa_nil)) (blkOk_by (own := [("_law_k", 2)]) (N := ["_law_d", "_law_most", "_law_k"]) (sc := defScope s_L_values) (by decide +kernel)) (fun _ _ _ _ _ => (pg_name (i := 2) sc_L_values.nd rfl (Or.inl rfl))) (fun _ _ _ _ _ => pts_nil) (fun _ _ _ _ _ => (pe_call G_L_next (hr.mono (by decide)) rfl g_L_next k_L_next b_L_next .nil pass0 (pa_cons (pv 0) (pa_cons pe_int pa_nil))))))
theorem ok_L_deed (X : K.In h) (G : h.Ns mainGlobals mg) (c : He.SaysD fa fn K) : OkF P w K mg d_L_deed 2 ["_law_d"] (sp_L_deed (ZZ K)) := by
  obtain ⟨fd, F0⟩ := c.def_ 5 (d := d_L_deed) rfl
  have F : FunD K "_law_deed" "_law_deed" (defArgs s_L_deed) (defBody s_L_deed) (defScope s_L_deed) [] [] (He.fAd K ("_law_deed", none)) fd := F0
  obtain ⟨fd_L_next, GA_L_next, b_L_next, k_L_next, _⟩ := ok_L_next (P := P) (w := w) X G c
  have g_L_next : mg "_law_next" = some (.ref (He.ga K "_law_next")) := He.glo_ok X G (c.fact 26 (f := .glo "_law_next") rfl)
  refine ⟨fd, fun base => ?_, F.bindsN (fun _ _ _ _ _ _ us hl => match us, hl with | [_], _ => rfl), F0.kp, F0⟩
  have G_L_next := GA_L_next base
  refine F.ok sc_L_deed (fun vs H Q E h => len_L_deed h) (fun cdv A outer s H vs Q E hr h => ⟨t_L_deed (ZZ K), PSs.nox ?_, pure_L_deed vs H Q E h⟩)
  exact pss_cons (ps_if (pt_cmpR op_eq (pe_call G_L_next (hr.mono (by decide)) rfl g_L_next k_L_next b_L_next .nil pass0 (pa_cons (pv 0) (pa_cons pe_int pa_nil))) pe_int (nomark _)) (pss_one (ps_ret (pe_tup (pa_cons pe_str (pa_cons (pe_call G_L_next (hr.mono (by decide)) rfl g_L_next k_L_next b_L_next .nil pass0 (pa_cons (pv 0) (pa_cons pe_int pa_nil))) pa_nil))))) (pss_nil))
      (pss_one (ps_ret (pe_tup (pa_cons pe_str pa_nil))))
theorem ok_L_programs (X : K.In h) (G : h.Ns mainGlobals mg) (c : He.SaysD fa fn K) : OkF P w K mg d_L_programs 3 ["_law_d", "_law_hands", "_law_deeds"] (sp_L_programs (ZZ K)) := by
  obtain ⟨fd, F0⟩ := c.def_ 6 (d := d_L_programs) rfl
  have F : FunD K "_law_programs" "_law_programs" (defArgs s_L_programs) (defBody s_L_programs) (defScope s_L_programs) [] [] (He.fAd K ("_law_programs", none)) fd := F0
  obtain ⟨fd_L_next, GA_L_next, b_L_next, k_L_next, _⟩ := ok_L_next (P := P) (w := w) X G c
  have g_L_next : mg "_law_next" = some (.ref (He.ga K "_law_next")) := He.glo_ok X G (c.fact 26 (f := .glo "_law_next") rfl)
  obtain ⟨fd_L_deed, GA_L_deed, b_L_deed, k_L_deed, _⟩ := ok_L_deed (P := P) (w := w) X G c
  have g_L_deed : mg "_law_deed" = some (.ref (He.ga K "_law_deed")) := He.glo_ok X G (c.fact 29 (f := .glo "_law_deed") rfl)
  have f_range : mg "range" = none := He.free_ok X G (c.fact 28 (f := .free "range") rfl)
  refine ⟨fd, fun base => ?_, F.bindsN (fun _ _ _ _ _ _ us hl => match us, hl with | [_, _, _], _ => rfl), F0.kp, F0⟩
  have G_L_next := GA_L_next base
  have G_L_deed := GA_L_deed base
  refine F.ok sc_L_programs (fun vs H Q E h => len_L_programs h) (fun cdv A outer s H vs Q E hr h => ⟨t_L_programs (ZZ K), PSs.nox ?_, pure_L_programs vs H Q E h⟩)
  exact pss_cons (ps_if (PW.pt (pw_and (pt_cmpR op_gt (pv 1) pe_int (nomark _)) (pw_and1 (pt_cmpR op_eq (pe_call G_L_next (hr.mono (by decide)) rfl g_L_next k_L_next b_L_next .nil pass0 (pa_cons (pv 0) (pa_cons pe_int pa_nil))) pe_int (nomark _))))) (pss_cons (ps_set (i := 3) sc_L_programs.nd rfl (Or.inl rfl) (pe_lst (pa_cons (pe_lst (pa_cons (pe_tup (pa_cons pe_str pa_nil)) pa_nil)) (pa_cons (pe_lst (pa_cons (pe_tup (pa_cons pe_str pa_nil)) (pa_cons (pe_tup (pa_cons pe_str pa_nil)) (pa_cons (pe_tup (pa_cons pe_str (pa_cons (pe_call G_L_next (hr.mono (by decide)) rfl g_L_next k_L_next b_L_next .nil pass0 (pa_cons (pv 0) (pa_cons pe_int pa_nil))) pa_nil))) pa_nil)))) pa_nil))))
      (pss_cons (ps_expr (pe_bm PySem.F.plainAttrs_list PySem.F.slot_list_insert PySem.F.type_list_insert mt_insert (pe_ix ix_list (pv 3) (pe_call G_L_next (hr.mono (by decide)) rfl g_L_next k_L_next b_L_next .nil pass0 (pa_cons (pv 0) (pa_cons pe_int pa_nil))) (fun _ _ => rfl)) (pa_cons pe_int (pa_cons (pe_call G_L_deed (hr.mono (by decide)) rfl g_L_deed k_L_deed b_L_deed .nil pass0 (pa_cons (pv 0) pa_nil)) pa_nil))))
      (pss_one (ps_ret (pe_stepL (pv 3) (pe_ix ix_list (pe_lst (pa_cons pe_int (pa_cons (pe_un un_neg pe_int) pa_nil))) (pe_call G_L_next (hr.mono (by decide)) rfl g_L_next k_L_next b_L_next .nil pass0 (pa_cons (pv 0) (pa_cons pe_int pa_nil))) (fun _ _ => rfl))))))) (pss_nil))
      (pss_one (ps_ret (pe_lc (own := [("_law_hand", 5)]) rfl sc_L_programs.nd (pi_range1 rfl f_range (pa_cons (pe_op op_add pe_int (pe_call G_L_next (hr.mono (by decide)) rfl g_L_next k_L_next b_L_next .nil pass0 (pa_cons (pv 0) (pa_cons (pv 1) pa_nil)))) pa_nil)) (blkOk_by (own := [("_law_hand", 5)]) (N := ["_law_d", "_law_hands", "_law_deeds", "_law_rows", "_law_k", "_law_hand"]) (sc := defScope s_L_programs) (by decide +kernel)) (fun _ _ _ _ _ => (pg_name (i := 5) sc_L_programs.nd rfl (Or.inl rfl))) (fun _ _ _ _ _ => pts_nil) (fun _ _ _ _ _ => (pe_lc (own := [("_law_k", 4)]) rfl sc_L_programs.nd (pi_range1 rfl f_range (pa_cons (pe_call G_L_next (hr.mono (by decide)) rfl g_L_next k_L_next b_L_next .nil pass0 (pa_cons (pv 0) (pa_cons (pe_op op_add (pv 2) pe_int) pa_nil))) pa_nil)) (blkOk_by (own := [("_law_k", 4)]) (N := ["_law_d", "_law_hands", "_law_deeds", "_law_rows", "_law_k", "_law_hand"]) (sc := relS ⟨.function, [(".0", .local), ("_law_hand", .local), ("range", .globalImplicit), ("_law_next", .globalImplicit), ("_law_d", .free), ("_law_deeds", .free)], false, false, []⟩ (defScope s_L_programs)) (by decide +kernel)) (fun _ _ _ _ _ => (pg_name (i := 4) sc_L_programs.nd rfl (Or.inl rfl))) (fun _ _ _ _ _ => pts_nil) (fun _ _ _ _ _ => (pe_call G_L_deed (hr.mono (by decide)) rfl g_L_deed k_L_deed b_L_deed .nil pass0 (pa_cons (pv 0) pa_nil))))))))
theorem ok_L_rule (X : K.In h) (G : h.Ns mainGlobals mg) (c : He.SaysD fa fn K) : OkF P w K mg d_L_rule 2 ["_law_d", "_law_many"] (sp_L_rule (ZZ K)) := by
  obtain ⟨fd, F0⟩ := c.def_ 7 (d := d_L_rule) rfl
  have F : FunD K "_law_rule" "_law_rule" (defArgs s_L_rule) (defBody s_L_rule) (defScope s_L_rule) [] [] (He.fAd K ("_law_rule", none)) fd := F0
  obtain ⟨fd_L_next, GA_L_next, b_L_next, k_L_next, _⟩ := ok_L_next (P := P) (w := w) X G c
  have g_L_next : mg "_law_next" = some (.ref (He.ga K "_law_next")) := He.glo_ok X G (c.fact 26 (f := .glo "_law_next") rfl)
  have f_range : mg "range" = none := He.free_ok X G (c.fact 28 (f := .free "range") rfl)
  have f_tuple : mg "tuple" = none := He.free_ok X G (c.fact 32 (f := .free "tuple") rfl)
  refine ⟨fd, fun base => ?_, F.bindsN (fun _ _ _ _ _ _ us hl => match us, hl with | [_, _], _ => rfl), F0.kp, F0⟩
  have G_L_next := GA_L_next base
  refine F.ok sc_L_rule (fun vs H Q E h => len_L_rule h) (fun cdv A outer s H vs Q E hr h => ⟨t_L_rule (ZZ K), PSs.nox ?_, pure_L_rule vs H Q E h⟩)
  exact pss_cons (ps_set (i := 2) sc_L_rule.nd rfl (Or.inl rfl) (pe_call G_L_next (hr.mono (by decide)) rfl g_L_next k_L_next b_L_next .nil pass0 (pa_cons (pv 0) (pa_cons pe_int pa_nil))))
      (pss_cons (ps_if (pt_cmpR op_lt (pv 2) pe_int (nomark _)) (pss_one (ps_ret (pe_tup (pa_cons pe_str (pa_cons (pe_op op_add pe_int (pe_call G_L_next (hr.mono (by decide)) rfl g_L_next k_L_next b_L_next .nil pass0 (pa_cons (pv 0) (pa_cons (pe_ix ix_list (pe_lst (pa_cons pe_int (pa_cons pe_int pa_nil))) (pe_call G_L_next (hr.mono (by decide)) rfl g_L_next k_L_next b_L_next .nil pass0 (pa_cons (pv 0) (pa_cons pe_int pa_nil))) (fun _ _ => rfl)) pa_nil)))) pa_nil))))) (pss_nil))
      (pss_cons (ps_if (pt_cmpR op_eq (pv 2) pe_int (nomark _)) (pss_one (ps_ret (pe_tup (pa_cons pe_str (pa_cons (pe_callTy call_tuple_of rfl f_tuple (by decide +kernel) (pa_cons (pe_lc (own := [("_law_hand", 3)]) rfl sc_L_rule.nd (pi_range1 rfl f_range (pa_cons (pv 1) pa_nil)) (blkOk_by (own := [("_law_hand", 3)]) (N := ["_law_d", "_law_many", "_law_kind", "_law_hand"]) (sc := defScope s_L_rule) (by decide +kernel)) (fun _ _ _ _ _ => (pg_name (i := 3) sc_L_rule.nd rfl (Or.inl rfl))) (fun _ _ _ _ _ => pts_one (pt_cmpR op_eq (pe_call G_L_next (hr.mono (by decide)) rfl g_L_next k_L_next b_L_next .nil pass0 (pa_cons (pv 0) (pa_cons pe_int pa_nil))) pe_int (nomark _))) (fun _ _ _ _ _ => (pv 3))) pa_nil)) pa_nil))))) (pss_nil))
      (pss_one (ps_ret (pe_tup (pa_cons pe_str pa_nil))))))
theorem ok_need_values (X : K.In h) (G : h.Ns mainGlobals mg) (c : He.SaysD fa fn K) : OkF P w K mg d_need_values 1 ["values"] (sp_need_values (ZZ K)) := by
  obtain ⟨fd, F0⟩ := c.def_ 8 (d := d_need_values) rfl
  have F : FunD K "need_values" "need_values" (defArgs s_need_values) (defBody s_need_values) (defScope s_need_values) [] [] (He.fAd K ("need_values", none)) fd := F0
  have f_len : mg "len" = none := He.free_ok X G (c.fact 24 (f := .free "len") rfl)
  have f_range : mg "range" = none := He.free_ok X G (c.fact 28 (f := .free "range") rfl)
  have gi_MOST_VALUES : ∃ t, mg "MOST_VALUES" = some (.int 6 t) := He.int_ok X G (c.fact 34 (f := .int "MOST_VALUES" 6) rfl)
  have gi_MOST_VALUE : ∃ t, mg "MOST_VALUE" = some (.int 99 t) := He.int_ok X G (c.fact 35 (f := .int "MOST_VALUE" 99) rfl)
  refine ⟨fd, fun base => ?_, F.bindsN (fun _ _ _ _ _ _ us hl => match us, hl with | [_], _ => rfl), F0.kp, F0⟩
  refine F.ok sc_need_values (fun vs H Q E h => len_need_values h) (fun cdv A outer s H vs Q E hr h => ⟨t_need_values (ZZ K), PSs.nox ?_, pure_need_values (zok c) vs H Q E h⟩)
  exact pss_cons (ps_if (pt_cmpR op_gt (pe_callB call_len_seq rfl f_len PySem.boot_len (pa_cons (pv 0) pa_nil)) (pe_glob rfl gi_MOST_VALUES.choose_spec ⟨_, rfl⟩) (nomark _)) (pss_one (ps_never)) (pss_nil))
      (pss_one (ps_for PassesOwn.never rfl (pi_range1 rfl f_range (pa_cons (pe_callB call_len_seq rfl f_len PySem.boot_len (pa_cons (pv 0) pa_nil)) pa_nil)) (pg_name (i := 1) sc_need_values.nd rfl (Or.inl rfl)) (pss_one (ps_if (pt_not (pt_chain op_le op_le pe_int (pe_ix ix_list (pv 0) (pv 1) (fun _ _ => rfl)) (pe_glob rfl gi_MOST_VALUE.choose_spec ⟨_, rfl⟩))) (pss_one (ps_never)) (pss_nil)))))
theorem ok_is_deed (X : K.In h) (G : h.Ns mainGlobals mg) (c : He.SaysD fa fn K) : OkF P w K mg d_is_deed 1 ["deed"] (sp_is_deed (ZZ K)) := by
  obtain ⟨fd, F0⟩ := c.def_ 9 (d := d_is_deed) rfl
  have F : FunD K "is_deed" "is_deed" (defArgs s_is_deed) (defBody s_is_deed) (defScope s_is_deed) [] [] (He.fAd K ("is_deed", none)) fd := F0
  have f_len : mg "len" = none := He.free_ok X G (c.fact 24 (f := .free "len") rfl)
  have gi_MOST_VALUE : ∃ t, mg "MOST_VALUE" = some (.int 99 t) := He.int_ok X G (c.fact 35 (f := .int "MOST_VALUE" 99) rfl)
  refine ⟨fd, fun base => ?_, F.bindsN (fun _ _ _ _ _ _ us hl => match us, hl with | [_], _ => rfl), F0.kp, F0⟩
  refine F.ok sc_is_deed (fun vs H Q E h => len_is_deed h) (fun cdv A outer s H vs Q E hr h => ⟨t_is_deed (ZZ K), PSs.nox ?_, pure_is_deed (zok c) vs H Q E h⟩)
  exact pss_cons (ps_if (pt_cmpR op_eq (pe_callB call_len_seq rfl f_len PySem.boot_len (pa_cons (pv 0) pa_nil)) pe_int (nomark _)) (pss_one (ps_ret pe_bl)) (pss_nil))
      (pss_cons (ps_if (pt_cmpR op_eq (pe_ix ix_tup (pv 0) pe_int (fun _ _ => rfl)) pe_str (nomark _)) (pss_one (ps_ret (pe_cmpR op_eq (pe_callB call_len_seq rfl f_len PySem.boot_len (pa_cons (pv 0) pa_nil)) pe_int (nomark _)))) (pss_nil))
      (pss_one (ps_ret (pe_and (pe_cmpR op_eq (pe_ix ix_tup (pv 0) pe_int (fun _ _ => rfl)) pe_str (nomark _)) (pe_and (pe_cmpR op_eq (pe_callB call_len_seq rfl f_len PySem.boot_len (pa_cons (pv 0) pa_nil)) pe_int (nomark _)) (pe_one (pe_chain op_le op_le pe_int (pe_ix ix_tup (pv 0) pe_int (fun _ _ => rfl)) (pe_glob rfl gi_MOST_VALUE.choose_spec ⟨_, rfl⟩))))))))
theorem ok_need_deeds (X : K.In h) (G : h.Ns mainGlobals mg) (c : He.SaysD fa fn K) : OkF P w K mg d_need_deeds 2 ["deeds", "hand"] (sp_need_deeds (ZZ K)) := by
  obtain ⟨fd, F0⟩ := c.def_ 10 (d := d_need_deeds) rfl
  have F : FunD K "need_deeds" "need_deeds" (defArgs s_need_deeds) (defBody s_need_deeds) (defScope s_need_deeds) [] [] (He.fAd K ("need_deeds", none)) fd := F0
  obtain ⟨fd_is_deed, GA_is_deed, b_is_deed, k_is_deed, _⟩ := ok_is_deed (P := P) (w := w) X G c
  have g_is_deed : mg "is_deed" = some (.ref (He.ga K "is_deed")) := He.glo_ok X G (c.fact 36 (f := .glo "is_deed") rfl)
  have f_len : mg "len" = none := He.free_ok X G (c.fact 24 (f := .free "len") rfl)
  have f_range : mg "range" = none := He.free_ok X G (c.fact 28 (f := .free "range") rfl)
  refine ⟨fd, fun base => ?_, F.bindsN (fun _ _ _ _ _ _ us hl => match us, hl with | [_, _], _ => rfl), F0.kp, F0⟩
  have G_is_deed := GA_is_deed base
  refine F.ok sc_need_deeds (fun vs H Q E h => len_need_deeds h) (fun cdv A outer s H vs Q E hr h => ⟨t_need_deeds (ZZ K), PSs.nox ?_, pure_need_deeds (zok c) vs H Q E h⟩)
  exact pss_one (ps_for PassesOwn.never rfl (pi_range1 rfl f_range (pa_cons (pe_callB call_len_seq rfl f_len PySem.boot_len (pa_cons (pv 0) pa_nil)) pa_nil)) (pg_name (i := 2) sc_need_deeds.nd rfl (Or.inl rfl)) (pss_one (ps_if (pt_not (pt_val (pe_call G_is_deed (hr.mono (by decide)) rfl g_is_deed k_is_deed b_is_deed .nil pass0 (pa_cons (pe_ix ix_list (pv 0) (pv 2) (fun _ _ => rfl)) pa_nil)))) (pss_one (ps_never)) (pss_nil))))
theorem ok_need_programs (X : K.In h) (G : h.Ns mainGlobals mg) (c : He.SaysD fa fn K) : OkF P w K mg d_need_programs 3 ["programs"] (sp_need_programs (ZZ K)) := by
  obtain ⟨fd, F0⟩ := c.def_ 11 (d := d_need_programs) rfl
  have F : FunD K "need_programs" "need_programs" (defArgs s_need_programs) (defBody s_need_programs) (defScope s_need_programs) [] [] (He.fAd K ("need_programs", none)) fd := F0
  obtain ⟨fd_need_deeds, GA_need_deeds, b_need_deeds, k_need_deeds, _⟩ := ok_need_deeds (P := P) (w := w) X G c
  have g_need_deeds : mg "need_deeds" = some (.ref (He.ga K "need_deeds")) := He.glo_ok X G (c.fact 37 (f := .glo "need_deeds") rfl)
  have f_len : mg "len" = none := He.free_ok X G (c.fact 24 (f := .free "len") rfl)
  have f_range : mg "range" = none := He.free_ok X G (c.fact 28 (f := .free "range") rfl)
  have gi_MOST_HANDS : ∃ t, mg "MOST_HANDS" = some (.int 3 t) := He.int_ok X G (c.fact 39 (f := .int "MOST_HANDS" 3) rfl)
  have gi_MOST_DEEDS : ∃ t, mg "MOST_DEEDS" = some (.int 4 t) := He.int_ok X G (c.fact 40 (f := .int "MOST_DEEDS" 4) rfl)
  refine ⟨fd, fun base => ?_, F.bindsN (fun _ _ _ _ _ _ us hl => match us, hl with | [_], _ => rfl), F0.kp, F0⟩
  have G_need_deeds := GA_need_deeds base
  refine F.ok sc_need_programs (fun vs H Q E h => len_need_programs h) (fun cdv A outer s H vs Q E hr h => ⟨t_need_programs (ZZ K), PSs.nox ?_, pure_need_programs (zok c) vs H Q E h⟩)
  exact pss_cons (ps_if (pt_not (pt_chain op_le op_le pe_int (pe_callB call_len_seq rfl f_len PySem.boot_len (pa_cons (pv 0) pa_nil)) (pe_glob rfl gi_MOST_HANDS.choose_spec ⟨_, rfl⟩))) (pss_one (ps_never)) (pss_nil))
      (pss_one (ps_for PassesOwn.never rfl (pi_range1 rfl f_range (pa_cons (pe_callB call_len_seq rfl f_len PySem.boot_len (pa_cons (pv 0) pa_nil)) pa_nil)) (pg_name (i := 1) sc_need_programs.nd rfl (Or.inl rfl)) (pss_cons (ps_if (pt_cmpR op_gt (pe_callB call_len_seq rfl f_len PySem.boot_len (pa_cons (pe_ix ix_list (pv 0) (pv 1) (fun _ _ => rfl)) pa_nil)) (pe_glob rfl gi_MOST_DEEDS.choose_spec ⟨_, rfl⟩) (nomark _)) (pss_one (ps_never)) (pss_nil))
      (pss_one (ps_expr (pe_call G_need_deeds (hr.mono (by decide)) rfl g_need_deeds k_need_deeds b_need_deeds .nil pass0 (pa_cons (pe_ix ix_list (pv 0) (pv 1) (fun _ _ => rfl)) (pa_cons (pv 1) pa_nil))))))))
theorem ok_need_rule (X : K.In h) (G : h.Ns mainGlobals mg) (c : He.SaysD fa fn K) : OkF P w K mg d_need_rule 1 ["rule", "many"] (sp_need_rule (ZZ K)) := by
  obtain ⟨fd, F0⟩ := c.def_ 12 (d := d_need_rule) rfl
  have F : FunD K "need_rule" "need_rule" (defArgs s_need_rule) (defBody s_need_rule) (defScope s_need_rule) [] [] (He.fAd K ("need_rule", none)) fd := F0
  have f_len : mg "len" = none := He.free_ok X G (c.fact 24 (f := .free "len") rfl)
  have f_range : mg "range" = none := He.free_ok X G (c.fact 28 (f := .free "range") rfl)
  have gi_MOST_COUNTS : ∃ t, mg "MOST_COUNTS" = some (.int 15 t) := He.int_ok X G (c.fact 42 (f := .int "MOST_COUNTS" 15) rfl)
  refine ⟨fd, fun base => ?_, F.bindsN (fun _ _ _ _ _ _ us hl => match us, hl with | [_, _], _ => rfl), F0.kp, F0⟩
  refine F.ok sc_need_rule (fun vs H Q E h => len_need_rule h) (fun cdv A outer s H vs Q E hr h => ⟨t_need_rule (ZZ K), PSs.nox ?_, pure_need_rule (zok c) vs H Q E h⟩)
  exact pss_cons (ps_if (pt_cmpR (op_eqD hr.units) (pv 0) (pe_tup (pa_cons pe_str pa_nil)) (nomark _)) (pss_one (ps_retN)) (pss_nil))
      (pss_cons (ps_if (PW.pt (pw_or (pt_cmpR op_ne (pe_callB call_len_seq rfl f_len PySem.boot_len (pa_cons (pv 0) pa_nil)) pe_int (nomark _)) (pw_or1 (pt_cmpR op_notIn_seq (pe_ix ix_tup (pv 0) pe_int (fun _ _ => rfl)) (pe_tup (pa_cons pe_str (pa_cons pe_str pa_nil))) (by rfl))))) (pss_one (ps_never)) (pss_nil))
      (pss_one (ps_if (pt_cmpR op_eq (pe_ix ix_tup (pv 0) pe_int (fun _ _ => rfl)) pe_str (nomark _)) (pss_one (ps_if (pt_not (pt_chain op_le op_le pe_int (pe_ix ix_tup (pv 0) pe_int (fun _ _ => rfl)) (pe_glob rfl gi_MOST_COUNTS.choose_spec ⟨_, rfl⟩))) (pss_one (ps_never)) (pss_nil))) (pss_one (ps_for PassesOwn.never rfl (pi_range1 rfl f_range (pa_cons (pe_callB call_len_seq rfl f_len PySem.boot_len (pa_cons (pe_ix ix_tup (pv 0) pe_int (fun _ _ => rfl)) pa_nil)) pa_nil)) (pg_name (i := 2) sc_need_rule.nd rfl (Or.inl rfl)) (pss_one (ps_if (PW.pt (pw_or (pt_not (pt_chain op_le op_lt pe_int (pe_ix ix_tup (pe_ix ix_tup (pv 0) pe_int (fun _ _ => rfl)) (pv 2) (fun _ _ => rfl)) (pv 1))) (pw_or1 (PW.pt (pw_and (pt_cmpR op_gt (pv 2) pe_int (nomark _)) (pw_and1 (pt_cmpR op_le (pe_ix ix_tup (pe_ix ix_tup (pv 0) pe_int (fun _ _ => rfl)) (pv 2) (fun _ _ => rfl)) (pe_ix ix_tup (pe_ix ix_tup (pv 0) pe_int (fun _ _ => rfl)) (pe_op op_sub (pv 2) pe_int) (fun _ _ => rfl)) (nomark _)))))))) (pss_one (ps_never)) (pss_nil))))))))
theorem ok_H_init (X : K.In h) (G : h.Ns mainGlobals mg) (c : He.SaysD fa fn K) : OkF P w K mg d_H_init 1 ["self", "program"] (sp_H_init (ZZ K)) := by
  obtain ⟨fd, F0⟩ := c.def_ 13 (d := d_H_init) rfl
  have F : FunD K "__init__" "Hand.__init__" (defArgs s_H_init) (defBody s_H_init) (defScope s_H_init) [] [] (He.fAd K ("Hand", some "__init__")) fd := F0
  have f_list : mg "list" = none := He.free_ok X G (c.fact 43 (f := .free "list") rfl)
  refine ⟨fd, fun base => ?_, F.bindsN (fun _ _ _ _ _ _ us hl => match us, hl with | [_, _], _ => rfl), F0.kp, F0⟩
  refine F.ok sc_H_init (fun vs H Q E h => len_H_init h) (fun cdv A outer s H vs Q E hr h => ⟨t_H_init (ZZ K), PSs.nox ?_, pure_H_init (zok c) vs H Q E h⟩)
  exact pss_cons (ps_fld (pv 0) (pe_callTy call_list_of rfl f_list (by decide +kernel) (pa_cons (pv 1) pa_nil)) rfl)
      (pss_cons (ps_fld (pv 0) pe_int rfl)
      (pss_cons (ps_fld (pv 0) pe_int rfl)
      (pss_cons (ps_fld (pv 0) pe_non rfl)
      (pss_cons (ps_fld (pv 0) pe_non rfl)
      (pss_cons (ps_fld (pv 0) pe_int rfl)
      (pss_cons (ps_fld (pv 0) pe_bl rfl)
      (pss_one (ps_fld (pv 0) (pe_lst pa_nil) rfl))))))))
theorem ok_M_init (X : K.In h) (G : h.Ns mainGlobals mg) (c : He.SaysD fa fn K) : OkF P w K mg d_M_init 4 ["self", "values", "programs", "rule"] (sp_M_init (ZZ K)) := by
  obtain ⟨fd, F0⟩ := c.def_ 14 (d := d_M_init) rfl
  have F : FunD K "__init__" "Machine.__init__" (defArgs s_M_init) (defBody s_M_init) (defScope s_M_init) [] [] (He.fAd K ("Machine", some "__init__")) fd := F0
  obtain ⟨fd_need_values, GA_need_values, b_need_values, k_need_values, _⟩ := ok_need_values (P := P) (w := w) X G c
  have g_need_values : mg "need_values" = some (.ref (He.ga K "need_values")) := He.glo_ok X G (c.fact 33 (f := .glo "need_values") rfl)
  obtain ⟨fd_need_programs, GA_need_programs, b_need_programs, k_need_programs, _⟩ := ok_need_programs (P := P) (w := w) X G c
  have g_need_programs : mg "need_programs" = some (.ref (He.ga K "need_programs")) := He.glo_ok X G (c.fact 38 (f := .glo "need_programs") rfl)
  obtain ⟨fd_need_rule, GA_need_rule, b_need_rule, k_need_rule, _⟩ := ok_need_rule (P := P) (w := w) X G c
  have g_need_rule : mg "need_rule" = some (.ref (He.ga K "need_rule")) := He.glo_ok X G (c.fact 41 (f := .glo "need_rule") rfl)
  obtain ⟨fd_H_init, GA_H_init, b_H_init, k_H_init, _⟩ := ok_H_init (P := P) (w := w) X G c
  have f_len : mg "len" = none := He.free_ok X G (c.fact 24 (f := .free "len") rfl)
  have f_list : mg "list" = none := He.free_ok X G (c.fact 43 (f := .free "list") rfl)
  have f_range : mg "range" = none := He.free_ok X G (c.fact 28 (f := .free "range") rfl)
  have mk_H : Mk K (He.ga K "Hand") (He.ma K (He.ga K "Hand") "__init__") := He.mkr_ok (c.fact 3 (f := .mkr "Hand") rfl)
  have g_Hand : mg "Hand" = some (.ref (He.ga K "Hand")) := He.glo_ok X G (c.fact 22 (f := .glo "Hand") rfl)
  refine ⟨fd, fun base => ?_, F.bindsN (fun _ _ _ _ _ _ us hl => match us, hl with | [_, _, _, _], _ => rfl), F0.kp, F0⟩
  have G_need_values := GA_need_values base
  have G_need_programs := GA_need_programs base
  have G_need_rule := GA_need_rule base
  have G_H_init := GA_H_init base
  refine F.ok sc_M_init (fun vs H Q E h => len_M_init h) (fun cdv A outer s H vs Q E hr h => ⟨t_M_init (ZZ K), PSs.nox ?_, pure_M_init (zok c) vs H Q E h⟩)
  exact pss_cons (ps_expr (pe_call G_need_values (hr.mono (by decide)) rfl g_need_values k_need_values b_need_values .nil pass0 (pa_cons (pv 1) pa_nil)))
      (pss_cons (ps_expr (pe_call G_need_programs (hr.mono (by decide)) rfl g_need_programs k_need_programs b_need_programs .nil pass0 (pa_cons (pv 2) pa_nil)))
      (pss_cons (ps_expr (pe_call G_need_rule (hr.mono (by decide)) rfl g_need_rule k_need_rule b_need_rule .nil pass0 (pa_cons (pv 3) (pa_cons (pe_callB call_len_seq rfl f_len PySem.boot_len (pa_cons (pv 2) pa_nil)) pa_nil))))
      (pss_cons (ps_fld (pv 0) (pv 3) rfl)
      (pss_cons (ps_fld (pv 0) (pe_callTy call_list_of rfl f_list (by decide +kernel) (pa_cons (pv 1) pa_nil)) rfl)
      (pss_cons (ps_fld (pv 0) (pe_listRg rfl rfl f_list (prg_1 rfl f_range (pe_callB call_len_seq rfl f_len PySem.boot_len (pa_cons (pv 1) pa_nil)))) rfl)
      (pss_cons (ps_fld (pv 0) (pe_callB call_len_seq rfl f_len PySem.boot_len (pa_cons (pv 1) pa_nil)) rfl)
      (pss_cons (ps_fld (pv 0) pe_int rfl)
      (pss_cons (ps_fld (pv 0) (pe_lst pa_nil) rfl)
      (pss_cons (ps_fld (pv 0) (pe_lc (own := [("program", 4)]) rfl sc_M_init.nd (pi_list (pv 2)) (blkOk_by (own := [("program", 4)]) (N := ["self", "values", "programs", "rule", "program"]) (sc := defScope s_M_init) (by decide +kernel)) (fun _ _ _ _ _ => (pg_name (i := 4) sc_M_init.nd rfl (Or.inl rfl))) (fun _ _ _ _ _ => pts_nil) (fun _ _ _ _ _ => (pe_make mk_H G_H_init (hr.mono (by decide)) rfl g_Hand b_H_init .nil pass0 (pa_cons (pv 4) pa_nil)))) rfl)
      (pss_cons (ps_fld (pv 0) (pe_lst pa_nil) rfl)
      (pss_one (ps_fld (pv 0) pe_bl rfl))))))))))))
theorem ok_M_need_hand (X : K.In h) (G : h.Ns mainGlobals mg) (c : He.SaysD fa fn K) : OkF P w K mg d_M_need_hand 1 ["self", "hand"] (sp_M_need_hand (ZZ K)) := by
  obtain ⟨fd, F0⟩ := c.def_ 15 (d := d_M_need_hand) rfl
  have F : FunD K "need_hand" "Machine.need_hand" (defArgs s_M_need_hand) (defBody s_M_need_hand) (defScope s_M_need_hand) [] [] (He.fAd K ("Machine", some "need_hand")) fd := F0
  have f_len : mg "len" = none := He.free_ok X G (c.fact 24 (f := .free "len") rfl)
  refine ⟨fd, fun base => ?_, F.bindsN (fun _ _ _ _ _ _ us hl => match us, hl with | [_, _], _ => rfl), F0.kp, F0⟩
  refine F.ok sc_M_need_hand (fun vs H Q E h => len_M_need_hand h) (fun cdv A outer s H vs Q E hr h => ⟨t_M_need_hand (ZZ K), PSs.nox ?_, pure_M_need_hand (zok c) vs H Q E h⟩)
  exact pss_cons (ps_if (pt_not (pt_chain op_le op_lt pe_int (pv 1) (pe_callB call_len_seq rfl f_len PySem.boot_len (pa_cons (pe_fld (pv 0) rfl) pa_nil)))) (pss_one (ps_never)) (pss_nil))
      (pss_one (ps_ret (pe_ix ix_list (pe_fld (pv 0) rfl) (pv 1) (fun _ _ => rfl))))
theorem ok_M_answers (X : K.In h) (G : h.Ns mainGlobals mg) (c : He.SaysD fa fn K) : OkF P w K mg d_M_answers 2 ["self", "hand"] (sp_M_answers (ZZ K)) := by
  obtain ⟨fd, F0⟩ := c.def_ 16 (d := d_M_answers) rfl
  have F : FunD K "answers" "Machine.answers" (defArgs s_M_answers) (defBody s_M_answers) (defScope s_M_answers) [] [] (He.fAd K ("Machine", some "answers")) fd := F0
  obtain ⟨fd_M_need_hand, GA_M_need_hand, b_M_need_hand, k_M_need_hand, _⟩ := ok_M_need_hand (P := P) (w := w) X G c
  have m_M_need_hand : Meth K (He.ga K "Machine") "need_hand" (He.ma K (He.ga K "Machine") "need_hand") := He.meth_ok (c.fact 44 (f := .meth "Machine" "need_hand") rfl)
  have f_list : mg "list" = none := He.free_ok X G (c.fact 43 (f := .free "list") rfl)
  have cl_M : Cls K (He.ga K "Machine") := He.cls_ok (c.fact 0 (f := .cls "Machine") rfl)
  refine ⟨fd, fun base => ?_, F.bindsN (fun _ _ _ _ _ _ us hl => match us, hl with | [_, _], _ => rfl), F0.kp, F0⟩
  have G_M_need_hand := GA_M_need_hand base
  refine F.ok sc_M_answers (fun vs H Q E h => len_M_answers h) (fun cdv A outer s H vs Q E hr h => ⟨t_M_answers (ZZ K), PSs.nox ?_, pure_M_answers (zok c) vs H Q E h⟩)
  exact pss_one (ps_ret (pe_callTy call_list_of rfl f_list (by decide +kernel) (pa_cons (pe_fld (pe_meth (pv 0) cl_M m_M_need_hand G_M_need_hand (hr.mono (by decide)) b_M_need_hand .nil pass0 (pa_cons (pv 1) pa_nil)) rfl) pa_nil)))
theorem ok_L_like (X : K.In h) (G : h.Ns mainGlobals mg) (c : He.SaysD fa fn K) : OkF P w K mg d_L_like 6 ["_law_found", "_law_due"] (sp_L_like (ZZ K) 6) := by
  obtain ⟨fd, F0⟩ := c.def_ 17 (d := d_L_like) rfl
  have F : FunD K "_law_like" "_law_like" (defArgs s_L_like) (defBody s_L_like) (defScope s_L_like) [] [] (He.fAd K ("_law_like", none)) fd := F0
  have b_L_like : Binds K fd ["_law_found", "_law_due"] [] := F.bindsN (fun _ _ _ _ _ _ us hl => match us, hl with | [_, _], _ => rfl)
  have k_L_like := F0.kp
  have g_L_like : mg "_law_like" = some (.ref (He.ga K "_law_like")) := He.glo_ok X G (c.fact 46 (f := .glo "_law_like") rfl)
  have f_isinstance : mg "isinstance" = none := He.free_ok X G (c.fact 47 (f := .free "isinstance") rfl)
  have f_bool : mg "bool" = none := He.free_ok X G (c.fact 48 (f := .free "bool") rfl)
  have f_str : mg "str" = none := He.free_ok X G (c.fact 49 (f := .free "str") rfl)
  have f_int : mg "int" = none := He.free_ok X G (c.fact 25 (f := .free "int") rfl)
  have f_dict : mg "dict" = none := He.free_ok X G (c.fact 50 (f := .free "dict") rfl)
  have f_list : mg "list" = none := He.free_ok X G (c.fact 43 (f := .free "list") rfl)
  have f_tuple : mg "tuple" = none := He.free_ok X G (c.fact 32 (f := .free "tuple") rfl)
  have f_len : mg "len" = none := He.free_ok X G (c.fact 24 (f := .free "len") rfl)
  have f_range : mg "range" = none := He.free_ok X G (c.fact 28 (f := .free "range") rfl)
  have all : ∀ (base : Heap) (n : Nat), FnOk P w K mg base CX0 n (He.fAd K d_L_like.at_) fd ["_law_found", "_law_due"] (sp_L_like (ZZ K) n) := by
    intro base n
    induction n with
    | zero => exact ⟨fun vs H Q E h => len_L_like h, fun A outer s H args us vs Q E hr he hb hv hs => by obtain ⟨_, _, _, _, _, _, _, hd, _⟩ := hs; omega⟩
    | succ n ih =>
      have G_L_like := ih
      refine F.ok sc_L_like (fun vs H Q E h => len_L_like h) (fun cdv A outer s H vs Q E hr h => ⟨t_L_like (ZZ K) n, PSs.nox ?_, pure_L_like vs H Q E h⟩)
      exact pss_cons (ps_if (pt_val (pe_callB call_isi rfl f_isinstance (by decide +kernel) (pa_cons (pv 1) (pa_cons (pe_bltn rfl f_bool (by decide +kernel) rfl) pa_nil)))) (pss_one (ps_ret (pe_and (pe_callB call_isi rfl f_isinstance (by decide +kernel) (pa_cons (pv 0) (pa_cons (pe_bltn rfl f_bool (by decide +kernel) rfl) pa_nil))) (pe_one (pe_cmpR (op_eqD hr.units) (pv 0) (pv 1) (nomark _)))))) (pss_nil))
          (pss_cons (ps_if (pt_val (pe_callB call_isi rfl f_isinstance (by decide +kernel) (pa_cons (pv 1) (pa_cons (pe_bltn rfl f_str (by decide +kernel) rfl) pa_nil)))) (pss_one (ps_ret (pe_and (pe_callB call_isi rfl f_isinstance (by decide +kernel) (pa_cons (pv 0) (pa_cons (pe_bltn rfl f_str (by decide +kernel) rfl) pa_nil))) (pe_one (pe_cmpR (op_eqD hr.units) (pv 0) (pv 1) (nomark _)))))) (pss_nil))
          (pss_cons (ps_if (pt_val (pe_callB call_isi rfl f_isinstance (by decide +kernel) (pa_cons (pv 1) (pa_cons (pe_bltn rfl f_int (by decide +kernel) rfl) pa_nil)))) (pss_one (ps_ret (pe_and (pe_callB call_isi rfl f_isinstance (by decide +kernel) (pa_cons (pv 0) (pa_cons (pe_bltn rfl f_int (by decide +kernel) rfl) pa_nil))) (pe_and (pe_not (pe_callB call_isi rfl f_isinstance (by decide +kernel) (pa_cons (pv 0) (pa_cons (pe_bltn rfl f_bool (by decide +kernel) rfl) pa_nil)))) (pe_one (pe_cmpR (op_eqD hr.units) (pv 0) (pv 1) (nomark _))))))) (pss_nil))
          (pss_cons (ps_if (pt_cmpR op_isN (pv 1) pe_non (nomark _)) (pss_one (ps_ret (pe_cmpR op_isN (pv 0) pe_non (nomark _)))) (pss_nil))
          (pss_cons (ps_if (pt_val (pe_callB call_isi rfl f_isinstance (by decide +kernel) (pa_cons (pv 1) (pa_cons (pe_bltn rfl f_dict (by decide +kernel) rfl) pa_nil)))) (pss_cons ps_never (pss_one ps_never)) (pss_nil))
          (pss_cons (ps_if (PW.pt (pw_or (pt_cmpR op_ne (pe_callB call_isi rfl f_isinstance (by decide +kernel) (pa_cons (pv 1) (pa_cons (pe_bltn rfl f_tuple (by decide +kernel) rfl) pa_nil))) (pe_callB call_isi rfl f_isinstance (by decide +kernel) (pa_cons (pv 0) (pa_cons (pe_bltn rfl f_tuple (by decide +kernel) rfl) pa_nil))) (nomark _)) (pw_or1 (pt_cmpR op_ne (pe_callB call_isi rfl f_isinstance (by decide +kernel) (pa_cons (pv 1) (pa_cons (pe_bltn rfl f_list (by decide +kernel) rfl) pa_nil))) (pe_callB call_isi rfl f_isinstance (by decide +kernel) (pa_cons (pv 0) (pa_cons (pe_bltn rfl f_list (by decide +kernel) rfl) pa_nil))) (nomark _))))) (pss_one (ps_ret pe_bl)) (pss_nil))
          (pss_cons (ps_if (pt_cmpR op_ne (pe_callB call_len_seq rfl f_len PySem.boot_len (pa_cons (pv 0) pa_nil)) (pe_callB call_len_seq rfl f_len PySem.boot_len (pa_cons (pv 1) pa_nil)) (nomark _)) (pss_one (ps_ret pe_bl)) (pss_nil))
          (pss_cons (ps_for PassesOwn.never rfl (pi_range1 rfl f_range (pa_cons (pe_callB call_len_seq rfl f_len PySem.boot_len (pa_cons (pv 1) pa_nil)) pa_nil)) (pg_name (i := 3) sc_L_like.nd rfl (Or.inl rfl)) (pss_one (ps_if (pt_not (pt_val (pe_call G_L_like hr rfl g_L_like k_L_like b_L_like .nil pass0 (pa_cons (pe_ix ix_seq (pv 0) (pv 3) (fun _ _ => rfl)) (pa_cons (pe_ix ix_seq (pv 1) (pv 3) (fun _ _ => rfl)) pa_nil))))) (pss_one (ps_ret pe_bl)) (pss_nil))))
          (pss_one (ps_ret pe_bl)))))))))
  exact ⟨fd, fun base => all base 6, b_L_like, k_L_like, F0⟩
theorem ok_M_order (X : K.In h) (G : h.Ns mainGlobals mg) (c : He.SaysD fa fn K) : OkF P w K mg d_M_order 1 ["self"] (sp_M_order (ZZ K)) := by
  obtain ⟨fd, F0⟩ := c.def_ 18 (d := d_M_order) rfl
  have F : FunD K "order" "Machine.order" (defArgs s_M_order) (defBody s_M_order) (defScope s_M_order) [] [] (He.fAd K ("Machine", some "order")) fd := F0
  have f_list : mg "list" = none := He.free_ok X G (c.fact 43 (f := .free "list") rfl)
  refine ⟨fd, fun base => ?_, F.bindsN (fun _ _ _ _ _ _ us hl => match us, hl with | [_], _ => rfl), F0.kp, F0⟩
  refine F.ok sc_M_order (fun vs H Q E h => len_M_order h) (fun cdv A outer s H vs Q E hr h => ⟨t_M_order (ZZ K), PSs.nox ?_, pure_M_order (zok c) vs H Q E h⟩)
  exact pss_one (ps_ret (pe_callTy call_list_of rfl f_list (by decide +kernel) (pa_cons (pe_fld (pv 0) rfl) pa_nil)))
theorem ok_M_marked (X : K.In h) (G : h.Ns mainGlobals mg) (c : He.SaysD fa fn K) : OkF P w K mg d_M_marked 2 ["self", "hand"] (sp_M_marked (ZZ K)) := by
  obtain ⟨fd, F0⟩ := c.def_ 19 (d := d_M_marked) rfl
  have F : FunD K "marked" "Machine.marked" (defArgs s_M_marked) (defBody s_M_marked) (defScope s_M_marked) [] [] (He.fAd K ("Machine", some "marked")) fd := F0
  obtain ⟨fd_M_need_hand, GA_M_need_hand, b_M_need_hand, k_M_need_hand, _⟩ := ok_M_need_hand (P := P) (w := w) X G c
  have m_M_need_hand : Meth K (He.ga K "Machine") "need_hand" (He.ma K (He.ga K "Machine") "need_hand") := He.meth_ok (c.fact 44 (f := .meth "Machine" "need_hand") rfl)
  have cl_M : Cls K (He.ga K "Machine") := He.cls_ok (c.fact 0 (f := .cls "Machine") rfl)
  refine ⟨fd, fun base => ?_, F.bindsN (fun _ _ _ _ _ _ us hl => match us, hl with | [_, _], _ => rfl), F0.kp, F0⟩
  have G_M_need_hand := GA_M_need_hand base
  refine F.ok sc_M_marked (fun vs H Q E h => len_M_marked h) (fun cdv A outer s H vs Q E hr h => ⟨t_M_marked (ZZ K), PSs.nox ?_, pure_M_marked (zok c) vs H Q E h⟩)
  exact pss_one (ps_ret (pe_fld (pe_meth (pv 0) cl_M m_M_need_hand G_M_need_hand (hr.mono (by decide)) b_M_need_hand .nil pass0 (pa_cons (pv 1) pa_nil)) rfl))
theorem ok_L_bad (X : K.In h) (G : h.Ns mainGlobals mg) (c : He.SaysD fa fn K) : OkF P w K mg d_L_bad 8 ["_law_d", "_law_programs_here"] (sp_L_badZ (ZZ K)) := by
  obtain ⟨fd, F0⟩ := c.def_ 20 (d := d_L_bad) rfl
  have F : FunD K "_law_bad" "_law_bad" (defArgs s_L_bad) (defBody s_L_bad) (defScope s_L_bad) [] [] (He.fAd K ("_law_bad", none)) fd := F0
  obtain ⟨fd_L_next, GA_L_next, b_L_next, k_L_next, _⟩ := ok_L_next (P := P) (w := w) X G c
  have g_L_next : mg "_law_next" = some (.ref (He.ga K "_law_next")) := He.glo_ok X G (c.fact 26 (f := .glo "_law_next") rfl)
  have f_len : mg "len" = none := He.free_ok X G (c.fact 24 (f := .free "len") rfl)
  have f_int : mg "int" = none := He.free_ok X G (c.fact 25 (f := .free "int") rfl)
  refine ⟨fd, fun base => ?_, F.bindsN (fun _ _ _ _ _ _ us hl => match us, hl with | [_, _], _ => rfl), F0.kp, F0⟩
  have G_L_next := GA_L_next base
  refine F.ok sc_L_bad (fun vs H Q E h => len_L_badZ h) (fun cdv A outer s H vs Q E hr h => ⟨t_L_badZ (ZZ K), PSs.nox ?_, pure_L_badZ vs H Q E h⟩)
  exact pss_cons (ps_set (i := 2) sc_L_bad.nd rfl (Or.inl rfl) (pe_call G_L_next (hr.mono (by decide)) rfl g_L_next k_L_next b_L_next .nil pass0 (pa_cons (pv 0) (pa_cons pe_int pa_nil))))
      (pss_cons (ps_if (pt_cmpR op_lt (pv 2) pe_int (nomark _)) (pss_one (ps_ret (pe_tup (pa_cons (pe_ix ix_list (pe_lst (pa_cons (pe_lst pa_nil) (pa_cons (pe_op op_rep (pv 1) pe_int) pa_nil))) (pv 2) (fun _ _ => rfl)) (pa_cons (pe_ix ix_list (pe_lst (pa_cons pe_int (pa_cons (pe_op op_mul (pe_callB call_len_seq rfl f_len PySem.boot_len (pa_cons (pv 1) pa_nil)) pe_int) pa_nil))) (pv 2) (fun _ _ => rfl)) (pa_cons pe_int pa_nil)))))) (pss_nil))
      (pss_cons (ps_set (i := 3) sc_L_bad.nd rfl (Or.inl rfl) (pe_call G_L_next (hr.mono (by decide)) rfl g_L_next k_L_next b_L_next .nil pass0 (pa_cons (pv 0) (pa_cons (pe_callB call_len_seq rfl f_len PySem.boot_len (pa_cons (pv 1) pa_nil)) pa_nil))))
      (pss_cons (ps_set (i := 4) sc_L_bad.nd rfl (Or.inl rfl) (pe_op op_rep (pe_lst (pa_cons (pe_lst (pa_cons (pe_tup pa_nil) pa_nil)) pa_nil)) (pe_callTy call_int1 rfl f_int (by decide +kernel) (pa_cons (pe_cmpR op_lt (pe_callB call_len_seq rfl f_len PySem.boot_len (pa_cons (pv 1) pa_nil)) pe_int (nomark _)) pa_nil))))
      (pss_cons (ps_if (pt_cmpR op_eq (pv 2) pe_int (nomark _)) (pss_one (ps_ret (pe_tup (pa_cons (pe_op op_cat (pe_op op_cat (pe_op op_cat (pe_slice sl_list (pv 1) po_none (po_some (pv 3))) (pe_lst (pa_cons (pe_op op_rep (pe_lst (pa_cons (pe_tup (pa_cons pe_str pa_nil)) pa_nil)) pe_int) pa_nil))) (pe_slice sl_list (pv 1) (po_some (pe_op op_add (pv 3) pe_int)) po_none)) (pv 4)) (pa_cons (pv 3) (pa_cons pe_int pa_nil)))))) (pss_nil))
      (pss_cons (ps_set (i := 5) sc_L_bad.nd rfl (Or.inl rfl) (pe_slice sl_list (pe_ix ix_list (pv 1) (pv 3) (fun _ _ => rfl)) po_none (po_some pe_int)))
      (pss_cons (ps_set (i := 6) sc_L_bad.nd rfl (Or.inl rfl) (pe_call G_L_next (hr.mono (by decide)) rfl g_L_next k_L_next b_L_next .nil pass0 (pa_cons (pv 0) (pa_cons (pe_op op_add (pe_callB call_len_seq rfl f_len PySem.boot_len (pa_cons (pv 5) pa_nil)) pe_int) pa_nil))))
      (pss_cons (ps_set (i := 7) sc_L_bad.nd rfl (Or.inl rfl) (pe_ix ix_list (pe_lst (pa_cons (pe_tup pa_nil) (pa_cons (pe_tup (pa_cons pe_str (pa_cons pe_int pa_nil))) (pa_cons (pe_tup (pa_cons pe_str pa_nil)) (pa_cons (pe_tup (pa_cons pe_str (pa_cons pe_int pa_nil))) (pa_cons (pe_tup (pa_cons pe_str (pa_cons (pe_un un_neg pe_int) pa_nil))) (pa_cons (pe_tup (pa_cons pe_str (pa_cons pe_int (pa_cons pe_int pa_nil)))) (pa_cons (pe_tup (pa_cons pe_str pa_nil)) pa_nil)))))))) (pe_call G_L_next (hr.mono (by decide)) rfl g_L_next k_L_next b_L_next .nil pass0 (pa_cons (pv 0) (pa_cons pe_int pa_nil))) (fun _ _ => rfl)))
      (pss_one (ps_ret (pe_tup (pa_cons (pe_op op_cat (pe_op op_cat (pe_op op_cat (pe_slice sl_list (pv 1) po_none (po_some (pv 3))) (pe_lst (pa_cons (pe_op op_cat (pe_op op_cat (pe_slice sl_list (pv 5) po_none (po_some (pv 6))) (pe_lst (pa_cons (pv 7) (pa_cons (pe_tup pa_nil) pa_nil)))) (pe_slice sl_list (pv 5) (po_some (pv 6)) po_none)) pa_nil))) (pe_slice sl_list (pv 1) (po_some (pe_op op_add (pv 3) pe_int)) po_none)) (pv 4)) (pa_cons (pv 3) (pa_cons (pv 6) pa_nil)))))))))))))
structure CodK (K : PySem.W.Frag) : Prop where
  cw : ∀ oc od osl (g : FuncData), K.lookup (He.ga K "_law_works") = some ⟨oc, od, .func g, osl⟩ → g.code = .ref (SX.cdA K "_law_works")
  cl : ∀ oc od osl (g : FuncData), K.lookup (He.ga K "law") = some ⟨oc, od, .func g, osl⟩ → g.code = .ref (SX.cdA K "law")
  ne : SX.cdP K "law" ≠ SX.cdP K "_law_works"
def LW0 : LW := ⟨defArgs s_L_works, .Name "x" ⟨0, 0, 0, 0⟩, defScope s_L_works⟩
def LW02 (j : Nat) : LW := SX.lamOf LW0 (SX.argOf ((defBody s_L_works).getD j (.Pass ⟨0, 0, 0, 0⟩)))
def mkW (cells : List (Str × Addr)) (j : Nat) (c' : Addr) : SX.LF := ⟨(("_law_works" : Str) ++ ".<locals>.") ++ "<lambda>", (LW02 j).params, (LW02 j).body, (LW02 j).scope, cloFrom cells (LW02 j).scope.names [], c', .none⟩
theorem uniqW (cod : CodK K) : ∀ p ∈ SX.T02 K, p.1 = SX.cdP K "_law_works" → p.2 = SX.lamN "_law_works" := fun p hp e => by
  rcases List.mem_cons.mp hp with rfl | hp
  · exact absurd e cod.ne
  · rw [List.mem_singleton.mp hp]
theorem uniqL (cod : CodK K) : ∀ p ∈ SX.T02 K, p.1 = SX.cdP K "law" → p.2 = SX.lamN "law" := fun p hp e => by
  rcases List.mem_cons.mp hp with rfl | hp
  · rfl
  · rw [List.mem_singleton.mp hp] at e
    exact absurd e.symm cod.ne
theorem ok_L_works (X : K.In h) (G : h.Ns mainGlobals mg) (c : He.SaysD fa fn K) (cod : CodK K) : ∃ fd, (∀ base, LamX.TabB base mg (SX.cdA K "_law_works") (SX.cdP K "_law_works") → FnOk P w K mg base CX0 2 (He.fAd K d_L_works.at_) fd ["_law_values_here", "_law_programs_here", "_law_rule_here"] (sp_L_works (SX.T02 K) LW02 fr3)) ∧ Binds K fd ["_law_values_here", "_law_programs_here", "_law_rule_here"] [] ∧ PySem.W.keepIn K (.ref (He.fAd K d_L_works.at_)) = true ∧ True := by
  obtain ⟨fd, F0⟩ := c.def_ 21 (d := d_L_works) rfl
  have F : FunD K "_law_works" "_law_works" (defArgs s_L_works) (defBody s_L_works) (defScope s_L_works) [] [] (He.fAd K ("_law_works", none)) fd := F0
  refine ⟨fd, fun base tbL => ?_, F.bindsN (fun _ _ _ _ _ _ us hl => match us, hl with | [_, _, _], _ => rfl), F0.kp, trivial⟩
  refine SX.fnC_ok F sc_L_works (fun vs H Q E h => by obtain ⟨_, _, _, rfl, _⟩ := h; rfl) cod.cw (fun A outer s H vs Q E hr h => ⟨t_L_works (ZZ K) (SX.T02 K) (mkW (cellsFrom (s.heap.objs.size + 1) (defScope s_L_works).names [])), ?_, pure_L_works (Z := ZZ K) (fun _ _ => rfl) (by decide +kernel) (by decide +kernel) rfl rfl (fun j hj c' doc pm ctv => match j, hj with | 0, _ => rfl | 1, _ => rfl | 2, _ => rfl | 3, _ => rfl) vs H Q E h⟩)
  exact SX.pr_cons (ps_set (i := 3) sc_L_works.nd rfl (Or.inl rfl) (pe_lst (pa_cons (SX.pe_lam0 tbL rfl (List.mem_cons_of_mem _ List.mem_cons_self) (uniqW cod) rfl (NdefX.ndef_free (sc := defScope s_L_works) (fr := []) (by decide +kernel))) pa_nil))) (SX.pr_cons (ps_expr (pe_bm PySem.F.plainAttrs_list PySem.F.slot_list_append PySem.F.type_list_append mt_append (pv 3) (pa_cons (SX.pe_lam0 tbL rfl (List.mem_cons_of_mem _ List.mem_cons_self) (uniqW cod) rfl (NdefX.ndef_free (sc := defScope s_L_works) (fr := []) (by decide +kernel))) pa_nil))) (SX.pr_cons (ps_expr (pe_bm PySem.F.plainAttrs_list PySem.F.slot_list_append PySem.F.type_list_append mt_append (pv 3) (pa_cons (SX.pe_lam0 tbL rfl (List.mem_cons_of_mem _ List.mem_cons_self) (uniqW cod) rfl (NdefX.ndef_free (sc := defScope s_L_works) (fr := []) (by decide +kernel))) pa_nil))) (SX.pr_cons (ps_expr (pe_bm PySem.F.plainAttrs_list PySem.F.slot_list_append PySem.F.type_list_append mt_append (pv 3) (pa_cons (SX.pe_lam0 tbL rfl (List.mem_cons_of_mem _ List.mem_cons_self) (uniqW cod) rfl (NdefX.ndef_free (sc := defScope s_L_works) (fr := []) (by decide +kernel))) pa_nil))) (SX.pr_ret (pv 3)))))
theorem ok_M_rests (X : K.In h) (G : h.Ns mainGlobals mg) (c : He.SaysD fa fn K) : OkF P w K mg d_M_rests 1 ["self", "hand"] (sp_M_rests (ZZ K)) := by
  obtain ⟨fd, F0⟩ := c.def_ 22 (d := d_M_rests) rfl
  have F : FunD K "rests" "Machine.rests" (defArgs s_M_rests) (defBody s_M_rests) (defScope s_M_rests) [] [] (He.fAd K ("Machine", some "rests")) fd := F0
  have f_len : mg "len" = none := He.free_ok X G (c.fact 24 (f := .free "len") rfl)
  refine ⟨fd, fun base => ?_, F.bindsN (fun _ _ _ _ _ _ us hl => match us, hl with | [_, _], _ => rfl), F0.kp, F0⟩
  refine F.ok sc_M_rests (fun vs H Q E h => len_M_rests h) (fun cdv A outer s H vs Q E hr h => ⟨t_M_rests (ZZ K), PSs.nox ?_, pure_M_rests (zok c) vs H Q E h⟩)
  exact pss_one (ps_ret (pe_cmpR op_eq (pe_fld (pe_ix ix_list (pe_fld (pv 0) rfl) (pv 1) (fun _ _ => rfl)) rfl) (pe_callB call_len_seq rfl f_len PySem.boot_len (pa_cons (pe_fld (pe_ix ix_list (pe_fld (pv 0) rfl) (pv 1) (fun _ _ => rfl)) rfl) pa_nil)) (nomark _)))
theorem ok_M_marks (X : K.In h) (G : h.Ns mainGlobals mg) (c : He.SaysD fa fn K) : OkF P w K mg d_M_marks 1 ["self"] (sp_M_marks (ZZ K)) := by
  obtain ⟨fd, F0⟩ := c.def_ 23 (d := d_M_marks) rfl
  have F : FunD K "marks" "Machine.marks" (defArgs s_M_marks) (defBody s_M_marks) (defScope s_M_marks) [] [] (He.fAd K ("Machine", some "marks")) fd := F0
  refine ⟨fd, fun base => ?_, F.bindsN (fun _ _ _ _ _ _ us hl => match us, hl with | [_], _ => rfl), F0.kp, F0⟩
  refine F.ok sc_M_marks (fun vs H Q E h => len_M_marks h) (fun cdv A outer s H vs Q E hr h => ⟨t_M_marks (ZZ K), PSs.nox ?_, pure_M_marks (zok c) vs H Q E h⟩)
  exact pss_one (ps_ret (pe_lc (own := [("hand", 1)]) rfl sc_M_marks.nd (pi_list (pe_fld (pv 0) rfl)) (blkOk_by (own := [("hand", 1)]) (N := ["self", "hand"]) (sc := defScope s_M_marks) (by decide +kernel)) (fun _ _ _ _ _ => (pg_name (i := 1) sc_M_marks.nd rfl (Or.inl rfl))) (fun _ _ _ _ _ => pts_one (pt_cmpR op_ne (pe_fld (pv 1) rfl) pe_int (nomark _))) (fun _ _ _ _ _ => (pe_fld (pv 1) rfl))))
theorem ok_M_taken (X : K.In h) (G : h.Ns mainGlobals mg) (c : He.SaysD fa fn K) : OkF P w K mg d_M_taken 2 ["self", "value"] (sp_M_taken (ZZ K)) := by
  obtain ⟨fd, F0⟩ := c.def_ 24 (d := d_M_taken) rfl
  have F : FunD K "taken" "Machine.taken" (defArgs s_M_taken) (defBody s_M_taken) (defScope s_M_taken) [] [] (He.fAd K ("Machine", some "taken")) fd := F0
  obtain ⟨fd_M_marks, GA_M_marks, b_M_marks, k_M_marks, _⟩ := ok_M_marks (P := P) (w := w) X G c
  have m_M_marks : Meth K (He.ga K "Machine") "marks" (He.ma K (He.ga K "Machine") "marks") := He.meth_ok (c.fact 56 (f := .meth "Machine" "marks") rfl)
  have f_list : mg "list" = none := He.free_ok X G (c.fact 43 (f := .free "list") rfl)
  have f_len : mg "len" = none := He.free_ok X G (c.fact 24 (f := .free "len") rfl)
  have cl_M : Cls K (He.ga K "Machine") := He.cls_ok (c.fact 0 (f := .cls "Machine") rfl)
  refine ⟨fd, fun base => ?_, F.bindsN (fun _ _ _ _ _ _ us hl => match us, hl with | [_, _], _ => rfl), F0.kp, F0⟩
  have G_M_marks := GA_M_marks base
  refine F.ok sc_M_taken (fun vs H Q E h => len_M_taken h) (fun cdv A outer s H vs Q E hr h => ⟨t_M_taken (ZZ K), PSs.nox ?_, pure_M_taken (zok c) vs H Q E h⟩)
  exact pss_cons (ps_for PassesOwn.never rfl (pi_list (pe_callTy call_list_of rfl f_list (by decide +kernel) (pa_cons (pe_fld (pv 0) rfl) pa_nil))) (pg_name (i := 2) sc_M_taken.nd rfl (Or.inl rfl)) (pss_one (ps_if (PW.pt (pw_and (pt_cmpR op_ne (pe_ix ix_tup (pe_fld (pv 0) rfl) pe_int (fun _ _ => rfl)) pe_str (nomark _)) (pw_and1 (pt_cmpR op_notIn_seq (pv 2) (pe_meth0 (pv 0) cl_M m_M_marks G_M_marks (hr.mono (by decide)) b_M_marks .nil pass0) (by rfl))))) (pss_cons (ps_expr (pe_bm PySem.F.plainAttrs_list PySem.F.slot_list_remove PySem.F.type_list_remove mt_remove (pe_fld (pv 0) rfl) (pa_cons (pv 2) pa_nil)))
      (pss_cons (ps_asg (pv 1) (pg_sub (pe_fld (pv 0) rfl) (pe_op op_sub (pv 2) pe_int) set_list))
      (pss_one (ps_ret (pv 2))))) (pss_nil))))
      (pss_cons (ps_expr (pe_bm PySem.F.plainAttrs_list PySem.F.slot_list_append PySem.F.type_list_append mt_append (pe_fld (pv 0) rfl) (pa_cons (pv 1) pa_nil)))
      (pss_cons (ps_expr (pe_bm PySem.F.plainAttrs_list PySem.F.slot_list_append PySem.F.type_list_append mt_append (pe_fld (pv 0) rfl) (pa_cons pe_int pa_nil)))
      (pss_one (ps_ret (pe_callB call_len_seq rfl f_len PySem.boot_len (pa_cons (pe_fld (pv 0) rfl) pa_nil))))))
theorem ok_M_forget (X : K.In h) (G : h.Ns mainGlobals mg) (c : He.SaysD fa fn K) : OkF P w K mg d_M_forget 1 ["self", "hand"] (sp_M_forget (ZZ K)) := by
  obtain ⟨fd, F0⟩ := c.def_ 25 (d := d_M_forget) rfl
  have F : FunD K "forget" "Machine.forget" (defArgs s_M_forget) (defBody s_M_forget) (defScope s_M_forget) [] [] (He.fAd K ("Machine", some "forget")) fd := F0
  refine ⟨fd, fun base => ?_, F.bindsN (fun _ _ _ _ _ _ us hl => match us, hl with | [_, _], _ => rfl), F0.kp, F0⟩
  refine F.ok sc_M_forget (fun vs H Q E h => len_M_forget h) (fun cdv A outer s H vs Q E hr h => ⟨t_M_forget (ZZ K), PSs.nox ?_, pure_M_forget (zok c) vs H Q E h⟩)
  exact pss_cons (ps_set (i := 2) sc_M_forget.nd rfl (Or.inl rfl) (pe_ix ix_list (pe_fld (pv 0) rfl) (pv 1) (fun _ _ => rfl)))
      (pss_cons (ps_fld (pv 2) pe_non rfl)
      (pss_cons (ps_fld (pv 2) pe_non rfl)
      (pss_one (ps_fld (pv 2) pe_bl rfl))))
theorem ok_M_ended (X : K.In h) (G : h.Ns mainGlobals mg) (c : He.SaysD fa fn K) : OkF P w K mg d_M_ended 2 ["self", "hand", "answer"] (sp_M_ended (ZZ K)) := by
  obtain ⟨fd, F0⟩ := c.def_ 26 (d := d_M_ended) rfl
  have F : FunD K "ended" "Machine.ended" (defArgs s_M_ended) (defBody s_M_ended) (defScope s_M_ended) [] [] (He.fAd K ("Machine", some "ended")) fd := F0
  obtain ⟨fd_M_forget, GA_M_forget, b_M_forget, k_M_forget, _⟩ := ok_M_forget (P := P) (w := w) X G c
  have m_M_forget : Meth K (He.ga K "Machine") "forget" (He.ma K (He.ga K "Machine") "forget") := He.meth_ok (c.fact 58 (f := .meth "Machine" "forget") rfl)
  have cl_M : Cls K (He.ga K "Machine") := He.cls_ok (c.fact 0 (f := .cls "Machine") rfl)
  refine ⟨fd, fun base => ?_, F.bindsN (fun _ _ _ _ _ _ us hl => match us, hl with | [_, _, _], _ => rfl), F0.kp, F0⟩
  have G_M_forget := GA_M_forget base
  refine F.ok sc_M_ended (fun vs H Q E h => len_M_ended h) (fun cdv A outer s H vs Q E hr h => ⟨t_M_ended (ZZ K), PSs.nox ?_, pure_M_ended (zok c) vs H Q E h⟩)
  exact pss_cons (ps_set (i := 3) sc_M_ended.nd rfl (Or.inl rfl) (pe_ix ix_list (pe_fld (pv 0) rfl) (pv 1) (fun _ _ => rfl)))
      (pss_cons (ps_expr (pe_bm PySem.F.plainAttrs_list PySem.F.slot_list_append PySem.F.type_list_append mt_append (pe_fld (pv 3) rfl) (pa_cons (pv 2) pa_nil)))
      (pss_cons (ps_fld (pv 3) (pe_op op_add (pe_fld (pv 3) rfl) pe_int) rfl)
      (pss_cons (ps_expr (pe_meth (pv 0) cl_M m_M_forget G_M_forget (hr.mono (by decide)) b_M_forget .nil pass0 (pa_cons (pv 1) pa_nil)))
      (pss_cons (ps_fld (pv 3) pe_int rfl)
      (pss_cons (ps_fld (pv 3) pe_int rfl)
      (pss_one (ps_ret (pe_tup (pa_cons pe_str (pa_cons (pv 2) pa_nil))))))))))
theorem ok_M_read (X : K.In h) (G : h.Ns mainGlobals mg) (c : He.SaysD fa fn K) : OkF P w K mg d_M_read 3 ["self", "hand"] (sp_M_read (ZZ K)) := by
  obtain ⟨fd, F0⟩ := c.def_ 27 (d := d_M_read) rfl
  have F : FunD K "read" "Machine.read" (defArgs s_M_read) (defBody s_M_read) (defScope s_M_read) [] [] (He.fAd K ("Machine", some "read")) fd := F0
  obtain ⟨fd_M_ended, GA_M_ended, b_M_ended, k_M_ended, _⟩ := ok_M_ended (P := P) (w := w) X G c
  have m_M_ended : Meth K (He.ga K "Machine") "ended" (He.ma K (He.ga K "Machine") "ended") := He.meth_ok (c.fact 59 (f := .meth "Machine" "ended") rfl)
  have cl_M : Cls K (He.ga K "Machine") := He.cls_ok (c.fact 0 (f := .cls "Machine") rfl)
  refine ⟨fd, fun base => ?_, F.bindsN (fun _ _ _ _ _ _ us hl => match us, hl with | [_, _], _ => rfl), F0.kp, F0⟩
  have G_M_ended := GA_M_ended base
  refine F.ok sc_M_read (fun vs H Q E h => len_M_read h) (fun cdv A outer s H vs Q E hr h => ⟨t_M_read (ZZ K), PSs.nox ?_, pure_M_read (zok c) vs H Q E h⟩)
  exact pss_cons (ps_set (i := 2) sc_M_read.nd rfl (Or.inl rfl) (pe_ix ix_list (pe_fld (pv 0) rfl) (pv 1) (fun _ _ => rfl)))
      (pss_cons (ps_if (PW.pt (pw_and (pt_cmpR op_eq (pe_fld (pv 0) rfl) pe_int (nomark _)) (pw_and1 (pt_cmpR op_eq (pe_ix ix_tup (pe_ix ix_list (pe_fld (pv 2) rfl) (pe_fld (pv 2) rfl) (fun _ _ => rfl)) pe_int (fun _ _ => rfl)) pe_str (nomark _))))) (pss_cons (ps_expr (pe_bm PySem.F.plainAttrs_list PySem.F.slot_list_append PySem.F.type_list_append mt_append (pe_fld (pv 0) rfl) (pa_cons (pe_tup (pa_cons (pv 1) (pa_cons (pe_fld (pv 2) rfl) pa_nil))) pa_nil)))
      (pss_one (ps_ret (pe_meth (pv 0) cl_M m_M_ended G_M_ended (hr.mono (by decide)) b_M_ended .nil pass0 (pa_cons (pv 1) (pa_cons pe_non pa_nil)))))) (pss_nil))
      (pss_cons (ps_fld (pv 2) (pe_tup (pa_cons (pe_fld (pv 0) rfl) (pa_cons (pe_fld (pv 0) rfl) pa_nil))) rfl)
      (pss_one (ps_ret (pe_tup (pa_cons pe_str (pa_cons (pe_fld (pv 0) rfl) pa_nil)))))))
theorem ok_M_exchange (X : K.In h) (G : h.Ns mainGlobals mg) (c : He.SaysD fa fn K) : OkF P w K mg d_M_exchange 2 ["self", "hand", "cell"] (sp_M_exchange (ZZ K)) := by
  obtain ⟨fd, F0⟩ := c.def_ 28 (d := d_M_exchange) rfl
  have F : FunD K "exchange" "Machine.exchange" (defArgs s_M_exchange) (defBody s_M_exchange) (defScope s_M_exchange) [] [] (He.fAd K ("Machine", some "exchange")) fd := F0
  obtain ⟨fd_M_forget, GA_M_forget, b_M_forget, k_M_forget, _⟩ := ok_M_forget (P := P) (w := w) X G c
  have m_M_forget : Meth K (He.ga K "Machine") "forget" (He.ma K (He.ga K "Machine") "forget") := He.meth_ok (c.fact 58 (f := .meth "Machine" "forget") rfl)
  have cl_M : Cls K (He.ga K "Machine") := He.cls_ok (c.fact 0 (f := .cls "Machine") rfl)
  refine ⟨fd, fun base => ?_, F.bindsN (fun _ _ _ _ _ _ us hl => match us, hl with | [_, _, _], _ => rfl), F0.kp, F0⟩
  have G_M_forget := GA_M_forget base
  refine F.ok sc_M_exchange (fun vs H Q E h => len_M_exchange h) (fun cdv A outer s H vs Q E hr h => ⟨t_M_exchange (ZZ K), PSs.nox ?_, pure_M_exchange (zok c) vs H Q E h⟩)
  exact pss_cons (ps_if (pt_cmpR (op_neD hr.units) (pe_tup (pa_cons (pe_fld (pv 0) rfl) (pa_cons (pe_fld (pv 0) rfl) pa_nil))) (pe_fld (pe_ix ix_list (pe_fld (pv 0) rfl) (pv 1) (fun _ _ => rfl)) rfl) (nomark _)) (pss_cons (ps_expr (pe_meth (pv 0) cl_M m_M_forget G_M_forget (hr.mono (by decide)) b_M_forget .nil pass0 (pa_cons (pv 1) pa_nil)))
      (pss_one (ps_ret pe_bl))) (pss_nil))
      (pss_cons (ps_fld (pv 0) (pv 2) rfl)
      (pss_cons (ps_if (pt_cmpR op_eq (pe_ix ix_tup (pe_fld (pv 0) rfl) pe_int (fun _ _ => rfl)) pe_str (nomark _)) (pss_one (ps_fld (pv 0) (pe_op op_mod (pe_op op_add (pe_fld (pv 0) rfl) pe_int) (pe_ix ix_tup (pe_fld (pv 0) rfl) pe_int (fun _ _ => rfl))) rfl)) (pss_nil))
      (pss_cons (ps_expr (pe_bm PySem.F.plainAttrs_list PySem.F.slot_list_append PySem.F.type_list_append mt_append (pe_fld (pv 0) rfl) (pa_cons (pe_tup (pa_cons (pv 1) (pa_cons (pe_fld (pe_ix ix_list (pe_fld (pv 0) rfl) (pv 1) (fun _ _ => rfl)) rfl) pa_nil))) pa_nil)))
      (pss_one (ps_ret pe_bl)))))
theorem ok_M_push (X : K.In h) (G : h.Ns mainGlobals mg) (c : He.SaysD fa fn K) : OkF P w K mg d_M_push 3 ["self", "hand"] (sp_M_push (ZZ K)) := by
  obtain ⟨fd, F0⟩ := c.def_ 29 (d := d_M_push) rfl
  have F : FunD K "push" "Machine.push" (defArgs s_M_push) (defBody s_M_push) (defScope s_M_push) [] [] (He.fAd K ("Machine", some "push")) fd := F0
  obtain ⟨fd_M_exchange, GA_M_exchange, b_M_exchange, k_M_exchange, _⟩ := ok_M_exchange (P := P) (w := w) X G c
  have m_M_exchange : Meth K (He.ga K "Machine") "exchange" (He.ma K (He.ga K "Machine") "exchange") := He.meth_ok (c.fact 61 (f := .meth "Machine" "exchange") rfl)
  obtain ⟨fd_M_ended, GA_M_ended, b_M_ended, k_M_ended, _⟩ := ok_M_ended (P := P) (w := w) X G c
  have m_M_ended : Meth K (He.ga K "Machine") "ended" (He.ma K (He.ga K "Machine") "ended") := He.meth_ok (c.fact 59 (f := .meth "Machine" "ended") rfl)
  have cl_M : Cls K (He.ga K "Machine") := He.cls_ok (c.fact 0 (f := .cls "Machine") rfl)
  refine ⟨fd, fun base => ?_, F.bindsN (fun _ _ _ _ _ _ us hl => match us, hl with | [_, _], _ => rfl), F0.kp, F0⟩
  have G_M_exchange := GA_M_exchange base
  have G_M_ended := GA_M_ended base
  refine F.ok sc_M_push (fun vs H Q E h => len_M_push h) (fun cdv A outer s H vs Q E hr h => ⟨t_M_push (ZZ K), PSs.nox ?_, pure_M_push (zok c) vs H Q E h⟩)
  exact pss_cons (ps_set (i := 2) sc_M_push.nd rfl (Or.inl rfl) (pe_ix ix_list (pe_fld (pv 0) rfl) (pv 1) (fun _ _ => rfl)))
      (pss_cons (ps_if (pt_cmpR op_isN (pe_fld (pv 2) rfl) pe_non (nomark _)) (pss_cons (ps_fld (pv 2) (pe_ix ix_tup (pe_fld (pv 2) rfl) pe_int (fun _ _ => rfl)) rfl)
      (pss_cons (ps_asg (pe_fld (pv 2) rfl) (pg_sub (pe_fld (pv 0) rfl) (pe_op op_sub (pe_fld (pv 2) rfl) pe_int) set_list))
      (pss_one (ps_ret (pe_tup (pa_cons pe_str (pa_cons (pe_fld (pv 2) rfl) pa_nil))))))) (pss_nil))
      (pss_cons (ps_if (pt_not (pt_val (pe_meth (pv 0) cl_M m_M_exchange G_M_exchange (hr.mono (by decide)) b_M_exchange .nil pass0 (pa_cons (pv 1) (pa_cons (pe_fld (pv 2) rfl) pa_nil))))) (pss_one (ps_ret (pe_tup (pa_cons pe_str pa_nil)))) (pss_nil))
      (pss_one (ps_ret (pe_meth (pv 0) cl_M m_M_ended G_M_ended (hr.mono (by decide)) b_M_ended .nil pass0 (pa_cons (pv 1) (pa_cons pe_str pa_nil)))))))
theorem ok_M_guard (X : K.In h) (G : h.Ns mainGlobals mg) (c : He.SaysD fa fn K) : OkF P w K mg d_M_guard 2 ["self", "hand", "cell"] (sp_M_guard (ZZ K)) := by
  obtain ⟨fd, F0⟩ := c.def_ 30 (d := d_M_guard) rfl
  have F : FunD K "guard" "Machine.guard" (defArgs s_M_guard) (defBody s_M_guard) (defScope s_M_guard) [] [] (He.fAd K ("Machine", some "guard")) fd := F0
  obtain ⟨fd_M_forget, GA_M_forget, b_M_forget, k_M_forget, _⟩ := ok_M_forget (P := P) (w := w) X G c
  have m_M_forget : Meth K (He.ga K "Machine") "forget" (He.ma K (He.ga K "Machine") "forget") := He.meth_ok (c.fact 58 (f := .meth "Machine" "forget") rfl)
  have cl_M : Cls K (He.ga K "Machine") := He.cls_ok (c.fact 0 (f := .cls "Machine") rfl)
  refine ⟨fd, fun base => ?_, F.bindsN (fun _ _ _ _ _ _ us hl => match us, hl with | [_, _, _], _ => rfl), F0.kp, F0⟩
  have G_M_forget := GA_M_forget base
  refine F.ok sc_M_guard (fun vs H Q E h => len_M_guard h) (fun cdv A outer s H vs Q E hr h => ⟨t_M_guard (ZZ K), PSs.nox ?_, pure_M_guard (zok c) vs H Q E h⟩)
  exact pss_cons (ps_set (i := 3) sc_M_guard.nd rfl (Or.inl rfl) (pe_ix ix_list (pe_fld (pv 0) rfl) (pv 1) (fun _ _ => rfl)))
      (pss_cons (ps_if (pt_cmpR op_ne (pe_fld (pv 3) rfl) (pv 2) (nomark _)) (pss_cons (ps_fld (pv 3) (pv 2) rfl)
      (pss_one (ps_ret (pe_tup (pa_cons pe_str (pa_cons (pv 2) pa_nil)))))) (pss_nil))
      (pss_cons (ps_if (pt_cmpR op_ne (pe_fld (pv 0) rfl) (pv 2) (nomark _)) (pss_cons (ps_expr (pe_meth (pv 0) cl_M m_M_forget G_M_forget (hr.mono (by decide)) b_M_forget .nil pass0 (pa_cons (pv 1) pa_nil)))
      (pss_one (ps_ret (pe_tup (pa_cons pe_str (pa_cons pe_bl pa_nil)))))) (pss_nil))
      (pss_cons (ps_fld (pv 3) pe_bl rfl)
      (pss_one (ps_ret (pe_tup (pa_cons pe_str (pa_cons pe_bl pa_nil))))))))
theorem ok_M_pop (X : K.In h) (G : h.Ns mainGlobals mg) (c : He.SaysD fa fn K) : OkF P w K mg d_M_pop 3 ["self", "hand"] (sp_M_pop (ZZ K)) := by
  obtain ⟨fd, F0⟩ := c.def_ 31 (d := d_M_pop) rfl
  have F : FunD K "pop" "Machine.pop" (defArgs s_M_pop) (defBody s_M_pop) (defScope s_M_pop) [] [] (He.fAd K ("Machine", some "pop")) fd := F0
  obtain ⟨fd_M_ended, GA_M_ended, b_M_ended, k_M_ended, _⟩ := ok_M_ended (P := P) (w := w) X G c
  have m_M_ended : Meth K (He.ga K "Machine") "ended" (He.ma K (He.ga K "Machine") "ended") := He.meth_ok (c.fact 59 (f := .meth "Machine" "ended") rfl)
  obtain ⟨fd_M_guard, GA_M_guard, b_M_guard, k_M_guard, _⟩ := ok_M_guard (P := P) (w := w) X G c
  have m_M_guard : Meth K (He.ga K "Machine") "guard" (He.ma K (He.ga K "Machine") "guard") := He.meth_ok (c.fact 63 (f := .meth "Machine" "guard") rfl)
  obtain ⟨fd_M_exchange, GA_M_exchange, b_M_exchange, k_M_exchange, _⟩ := ok_M_exchange (P := P) (w := w) X G c
  have m_M_exchange : Meth K (He.ga K "Machine") "exchange" (He.ma K (He.ga K "Machine") "exchange") := He.meth_ok (c.fact 61 (f := .meth "Machine" "exchange") rfl)
  have cl_M : Cls K (He.ga K "Machine") := He.cls_ok (c.fact 0 (f := .cls "Machine") rfl)
  refine ⟨fd, fun base => ?_, F.bindsN (fun _ _ _ _ _ _ us hl => match us, hl with | [_, _], _ => rfl), F0.kp, F0⟩
  have G_M_ended := GA_M_ended base
  have G_M_guard := GA_M_guard base
  have G_M_exchange := GA_M_exchange base
  refine F.ok sc_M_pop (fun vs H Q E h => len_M_pop h) (fun cdv A outer s H vs Q E hr h => ⟨t_M_pop (ZZ K), PSs.nox ?_, pure_M_pop (zok c) vs H Q E h⟩)
  exact pss_cons (ps_set (i := 2) sc_M_pop.nd rfl (Or.inl rfl) (pe_ix ix_list (pe_fld (pv 0) rfl) (pv 1) (fun _ _ => rfl)))
      (pss_cons (ps_if (pt_cmpR op_ne (pe_fld (pv 2) rfl) pe_int (nomark _)) (pss_cons (ps_expr (pe_bm PySem.F.plainAttrs_list PySem.F.slot_list_append PySem.F.type_list_append mt_append (pe_fld (pv 0) rfl) (pa_cons (pe_fld (pv 2) rfl) pa_nil)))
      (pss_one (ps_ret (pe_meth (pv 0) cl_M m_M_ended G_M_ended (hr.mono (by decide)) b_M_ended .nil pass0 (pa_cons (pv 1) (pa_cons (pe_ix ix_list (pe_fld (pv 0) rfl) (pe_op op_sub (pe_fld (pv 2) rfl) pe_int) (fun _ _ => rfl)) pa_nil)))))) (pss_nil))
      (pss_cons (ps_set (i := 3) sc_M_pop.nd rfl (Or.inl rfl) (pe_ix ix_tup (pe_fld (pv 2) rfl) pe_int (fun _ _ => rfl)))
      (pss_cons (ps_if (PW.pt (pw_and (pt_cmpR op_eq (pe_ix ix_tup (pe_fld (pv 0) rfl) pe_int (fun _ _ => rfl)) pe_str (nomark _)) (pw_and (pt_cmpR op_in_seq (pv 1) (pe_ix ix_tup (pe_fld (pv 0) rfl) pe_int (fun _ _ => rfl)) (by rfl)) (pw_and1 (pt_not (pt_val (pe_fld (pv 2) rfl))))))) (pss_one (ps_ret (pe_meth (pv 0) cl_M m_M_guard G_M_guard (hr.mono (by decide)) b_M_guard .nil pass0 (pa_cons (pv 1) (pa_cons (pv 3) pa_nil))))) (pss_nil))
      (pss_cons (ps_if (pt_cmpR op_isN (pe_fld (pv 2) rfl) pe_non (nomark _)) (pss_cons (ps_fld (pv 2) (pe_ix ix_list (pe_fld (pv 0) rfl) (pe_op op_sub (pv 3) pe_int) (fun _ _ => rfl)) rfl)
      (pss_one (ps_ret (pe_tup (pa_cons pe_str (pa_cons (pe_fld (pv 2) rfl) pa_nil)))))) (pss_nil))
      (pss_cons (ps_set (i := 4) sc_M_pop.nd rfl (Or.inl rfl) (pe_fld (pv 2) rfl))
      (pss_cons (ps_if (pt_not (pt_val (pe_meth (pv 0) cl_M m_M_exchange G_M_exchange (hr.mono (by decide)) b_M_exchange .nil pass0 (pa_cons (pv 1) (pa_cons (pv 4) pa_nil))))) (pss_one (ps_ret (pe_tup (pa_cons pe_str pa_nil)))) (pss_nil))
      (pss_cons (ps_fld (pv 0) (pe_or (pe_fld (pv 0) rfl) (pe_one (pe_cmpR (op_neD hr.units) (pe_ix ix_list (pe_fld (pv 0) rfl) (pe_op op_sub (pv 3) pe_int) (fun _ _ => rfl)) (pv 4) (nomark _)))) rfl)
      (pss_cons (ps_fld (pv 2) (pv 3) rfl)
      (pss_one (ps_ret (pe_tup (pa_cons pe_str (pa_cons (pv 4) pa_nil)))))))))))))
theorem ok_M_turn (X : K.In h) (G : h.Ns mainGlobals mg) (c : He.SaysD fa fn K) : OkF P w K mg d_M_turn 4 ["self", "hand"] (sp_M_turn (ZZ K)) := by
  obtain ⟨fd, F0⟩ := c.def_ 32 (d := d_M_turn) rfl
  have F : FunD K "turn" "Machine.turn" (defArgs s_M_turn) (defBody s_M_turn) (defScope s_M_turn) [] [] (He.fAd K ("Machine", some "turn")) fd := F0
  obtain ⟨fd_M_need_hand, GA_M_need_hand, b_M_need_hand, k_M_need_hand, _⟩ := ok_M_need_hand (P := P) (w := w) X G c
  have m_M_need_hand : Meth K (He.ga K "Machine") "need_hand" (He.ma K (He.ga K "Machine") "need_hand") := He.meth_ok (c.fact 44 (f := .meth "Machine" "need_hand") rfl)
  obtain ⟨fd_M_rests, GA_M_rests, b_M_rests, k_M_rests, _⟩ := ok_M_rests (P := P) (w := w) X G c
  have m_M_rests : Meth K (He.ga K "Machine") "rests" (He.ma K (He.ga K "Machine") "rests") := He.meth_ok (c.fact 55 (f := .meth "Machine" "rests") rfl)
  obtain ⟨fd_M_taken, GA_M_taken, b_M_taken, k_M_taken, _⟩ := ok_M_taken (P := P) (w := w) X G c
  have m_M_taken : Meth K (He.ga K "Machine") "taken" (He.ma K (He.ga K "Machine") "taken") := He.meth_ok (c.fact 57 (f := .meth "Machine" "taken") rfl)
  obtain ⟨fd_M_read, GA_M_read, b_M_read, k_M_read, _⟩ := ok_M_read (P := P) (w := w) X G c
  have m_M_read : Meth K (He.ga K "Machine") "read" (He.ma K (He.ga K "Machine") "read") := He.meth_ok (c.fact 60 (f := .meth "Machine" "read") rfl)
  obtain ⟨fd_M_push, GA_M_push, b_M_push, k_M_push, _⟩ := ok_M_push (P := P) (w := w) X G c
  have m_M_push : Meth K (He.ga K "Machine") "push" (He.ma K (He.ga K "Machine") "push") := He.meth_ok (c.fact 62 (f := .meth "Machine" "push") rfl)
  obtain ⟨fd_M_pop, GA_M_pop, b_M_pop, k_M_pop, _⟩ := ok_M_pop (P := P) (w := w) X G c
  have m_M_pop : Meth K (He.ga K "Machine") "pop" (He.ma K (He.ga K "Machine") "pop") := He.meth_ok (c.fact 64 (f := .meth "Machine" "pop") rfl)
  have cl_M : Cls K (He.ga K "Machine") := He.cls_ok (c.fact 0 (f := .cls "Machine") rfl)
  refine ⟨fd, fun base => ?_, F.bindsN (fun _ _ _ _ _ _ us hl => match us, hl with | [_, _], _ => rfl), F0.kp, F0⟩
  have G_M_need_hand := GA_M_need_hand base
  have G_M_rests := GA_M_rests base
  have G_M_taken := GA_M_taken base
  have G_M_read := GA_M_read base
  have G_M_push := GA_M_push base
  have G_M_pop := GA_M_pop base
  refine F.ok sc_M_turn (fun vs H Q E h => len_M_turn h) (fun cdv A outer s H vs Q E hr h => ⟨t_M_turn (ZZ K), PSs.nox ?_, pure_M_turn (zok c) vs H Q E h⟩)
  exact pss_cons (ps_set (i := 2) sc_M_turn.nd rfl (Or.inl rfl) (pe_meth (pv 0) cl_M m_M_need_hand G_M_need_hand (hr.mono (by decide)) b_M_need_hand .nil pass0 (pa_cons (pv 1) pa_nil)))
      (pss_cons (ps_if (pt_val (pe_meth (pv 0) cl_M m_M_rests G_M_rests (hr.mono (by decide)) b_M_rests .nil pass0 (pa_cons (pv 1) pa_nil))) (pss_one (ps_ret (pe_tup (pa_cons pe_str pa_nil)))) (pss_nil))
      (pss_cons (ps_set (i := 3) sc_M_turn.nd rfl (Or.inl rfl) (pe_ix ix_list (pe_fld (pv 2) rfl) (pe_fld (pv 2) rfl) (fun _ _ => rfl)))
      (pss_cons (ps_if (PW.pt (pw_and (pt_cmpR op_eq (pe_ix ix_tup (pv 3) pe_int (fun _ _ => rfl)) pe_str (nomark _)) (pw_and1 (pt_cmpR op_eq (pe_fld (pv 2) rfl) pe_int (nomark _))))) (pss_cons (ps_fld (pv 2) (pe_meth (pv 0) cl_M m_M_taken G_M_taken (hr.mono (by decide)) b_M_taken .nil pass0 (pa_cons (pe_ix ix_tup (pv 3) pe_int (fun _ _ => rfl)) pa_nil)) rfl)
      (pss_one (ps_ret (pe_tup (pa_cons pe_str (pa_cons (pe_fld (pv 2) rfl) pa_nil)))))) (pss_nil))
      (pss_cons (ps_if (pt_cmpR op_isN (pe_fld (pv 2) rfl) pe_non (nomark _)) (pss_one (ps_ret (pe_meth (pv 0) cl_M m_M_read G_M_read (hr.mono (by decide)) b_M_read .nil pass0 (pa_cons (pv 1) pa_nil)))) (pss_nil))
      (pss_cons (ps_if (pt_cmpR op_eq (pe_ix ix_tup (pv 3) pe_int (fun _ _ => rfl)) pe_str (nomark _)) (pss_one (ps_ret (pe_meth (pv 0) cl_M m_M_push G_M_push (hr.mono (by decide)) b_M_push .nil pass0 (pa_cons (pv 1) pa_nil)))) (pss_nil))
      (pss_one (ps_ret (pe_meth (pv 0) cl_M m_M_pop G_M_pop (hr.mono (by decide)) b_M_pop .nil pass0 (pa_cons (pv 1) pa_nil)))))))))
theorem okG_is_deed (X : K.In h) (G : h.Ns mainGlobals mg) (c : He.SaysD fa fn K) : OkF P w K mg d_is_deed 1 ["deed"] (sp_is_deedG (ZZ K)) := by
  obtain ⟨fd, F0⟩ := c.def_ 9 (d := d_is_deed) rfl
  have F : FunD K "is_deed" "is_deed" (defArgs s_is_deed) (defBody s_is_deed) (defScope s_is_deed) [] [] (He.fAd K ("is_deed", none)) fd := F0
  have f_len : mg "len" = none := He.free_ok X G (c.fact 24 (f := .free "len") rfl)
  have gi_MOST_VALUE : ∃ t, mg "MOST_VALUE" = some (.int 99 t) := He.int_ok X G (c.fact 35 (f := .int "MOST_VALUE" 99) rfl)
  refine ⟨fd, fun base => ?_, F.bindsN (fun _ _ _ _ _ _ us hl => match us, hl with | [_], _ => rfl), F0.kp, F0⟩
  refine F.ok sc_is_deed (fun vs H Q E h => by obtain ⟨_, _, rfl, _⟩ := h; rfl) (fun cdv A outer s H vs Q E hr h => ⟨t_is_deed (ZZ K), PSs.nox ?_, pure_is_deedG vs H Q E h⟩)
  exact pss_cons (ps_if (pt_cmpR op_eq (pe_callB call_len_seq rfl f_len PySem.boot_len (pa_cons (pv 0) pa_nil)) pe_int (nomark _)) (pss_one (ps_ret pe_bl)) (pss_nil))
      (pss_cons (ps_if (pt_cmpR op_eq (pe_ix ix_tup (pv 0) pe_int (fun _ _ => rfl)) pe_str (nomark _)) (pss_one (ps_ret (pe_cmpR op_eq (pe_callB call_len_seq rfl f_len PySem.boot_len (pa_cons (pv 0) pa_nil)) pe_int (nomark _)))) (pss_nil))
      (pss_one (ps_ret (pe_and (pe_cmpR op_eq (pe_ix ix_tup (pv 0) pe_int (fun _ _ => rfl)) pe_str (nomark _)) (pe_and (pe_cmpR op_eq (pe_callB call_len_seq rfl f_len PySem.boot_len (pa_cons (pv 0) pa_nil)) pe_int (nomark _)) (pe_one (pe_chain op_le op_le pe_int (pe_ix ix_tup (pv 0) pe_int (fun _ _ => rfl)) (pe_glob rfl gi_MOST_VALUE.choose_spec ⟨_, rfl⟩))))))))
theorem okX_need_values (X : K.In h) (G : h.Ns mainGlobals mg) (c : He.SaysD fa fn K) (e : SX.ExK K) : ∃ fd, (∀ base, FnOk P w K mg base (L2N.CX P w) 3 (He.fAd K d_need_values.at_) fd ["values"] (sp_need_valuesX (ZZ K) (He.ga K "BadPile"))) ∧ Binds K fd ["values"] [] ∧ PySem.W.keepIn K (.ref (He.fAd K d_need_values.at_)) = true ∧ True := by
  obtain ⟨fd, F0⟩ := c.def_ 8 (d := d_need_values) rfl
  have F : FunD K "need_values" "need_values" (defArgs s_need_values) (defBody s_need_values) (defScope s_need_values) [] [] (He.fAd K ("need_values", none)) fd := F0
  obtain ⟨fd_BadPile, GA_BadPile, b_BadPile, k_BadPile, _⟩ := ok_BadPile (P := P) (w := w) X G c e
  have g_BadPile : mg "BadPile" = some (.ref (He.ga K "BadPile")) := He.glo_ok X G (c.fact 77 (f := .glo "BadPile") rfl)
  have mBadPile : Meth K (He.ga K "BadPile") "__init__" (He.ma K (He.ga K "BadPile") "__init__") := He.meth_ok (c.fact 82 (f := .meth "BadPile" "__init__") rfl)
  have iC_BadPile := mBadPile.at_
  have tI_BadPile := beq_iff_eq.mp mBadPile.fn
  have f_len : mg "len" = none := He.free_ok X G (c.fact 24 (f := .free "len") rfl)
  have f_range : mg "range" = none := He.free_ok X G (c.fact 28 (f := .free "range") rfl)
  have gi_MOST_VALUES : ∃ t, mg "MOST_VALUES" = some (.int 6 t) := He.int_ok X G (c.fact 34 (f := .int "MOST_VALUES" 6) rfl)
  have gi_MOST_VALUE : ∃ t, mg "MOST_VALUE" = some (.int 99 t) := He.int_ok X G (c.fact 35 (f := .int "MOST_VALUE" 99) rfl)
  refine ⟨fd, fun base => ?_, F.bindsN (fun _ _ _ _ _ _ us hl => match us, hl with | [_], _ => rfl), F0.kp, trivial⟩
  have G_BadPile := GA_BadPile base
  refine F.ok sc_need_values (fun vs H Q E h => by obtain ⟨_, _, rfl, _⟩ := h; rfl) (fun cdv A outer s H vs Q E hr h => ⟨t_need_valuesX (ZZ K) (He.ga K "BadPile") E, ?_, pure_need_valuesX vs H Q E h⟩)
  exact pss_cons (ps_if (pt_cmpR op_gt (pe_callB call_len_seq rfl f_len PySem.boot_len (pa_cons (pv 0) pa_nil)) (pe_glob rfl gi_MOST_VALUES.choose_spec ⟨_, rfl⟩) (nomark _)) (pss_one ((L2N.ps_raise rfl (L2N.takes_of rfl rfl rfl rfl) (SX.pmkN_oex e.bp.1 iC_BadPile tI_BadPile G_BadPile (hr.mono (by decide)) b_BadPile pass0 rfl g_BadPile (pa_cons (pe_glob rfl gi_MOST_VALUES.choose_spec ⟨_, rfl⟩) pa_nil))))) (pss_nil))
      (pss_one (ps_for (passes_of rfl) rfl (pi_range1 rfl f_range (pa_cons (pe_callB call_len_seq rfl f_len PySem.boot_len (pa_cons (pv 0) pa_nil)) pa_nil)) (pg_name (i := 1) sc_need_values.nd rfl (Or.inl rfl)) (pss_one (ps_if (pt_not (pt_chain op_le op_le pe_int (pe_ix ix_list (pv 0) (pv 1) (fun _ _ => rfl)) (pe_glob rfl gi_MOST_VALUE.choose_spec ⟨_, rfl⟩))) (pss_one ((L2N.ps_raise rfl (L2N.takes_of rfl rfl rfl rfl) (SX.pmkN_oex e.bp.1 iC_BadPile tI_BadPile G_BadPile (hr.mono (by decide)) b_BadPile pass0 rfl g_BadPile (pa_cons (pv 1) pa_nil))))) (pss_nil)))))
theorem okX_need_deeds (X : K.In h) (G : h.Ns mainGlobals mg) (c : He.SaysD fa fn K) (e : SX.ExK K) : ∃ fd, (∀ base, FnOk P w K mg base (L2N.CX P w) 3 (He.fAd K d_need_deeds.at_) fd ["deeds", "hand"] (sp_need_deedsX (ZZ K) (He.ga K "BadDeed"))) ∧ Binds K fd ["deeds", "hand"] [] ∧ PySem.W.keepIn K (.ref (He.fAd K d_need_deeds.at_)) = true ∧ True := by
  obtain ⟨fd, F0⟩ := c.def_ 10 (d := d_need_deeds) rfl
  have F : FunD K "need_deeds" "need_deeds" (defArgs s_need_deeds) (defBody s_need_deeds) (defScope s_need_deeds) [] [] (He.fAd K ("need_deeds", none)) fd := F0
  obtain ⟨fd_BadDeed, GA_BadDeed, b_BadDeed, k_BadDeed, _⟩ := ok_BadDeed (P := P) (w := w) X G c e
  have g_BadDeed : mg "BadDeed" = some (.ref (He.ga K "BadDeed")) := He.glo_ok X G (c.fact 76 (f := .glo "BadDeed") rfl)
  have mBadDeed : Meth K (He.ga K "BadDeed") "__init__" (He.ma K (He.ga K "BadDeed") "__init__") := He.meth_ok (c.fact 81 (f := .meth "BadDeed" "__init__") rfl)
  have iC_BadDeed := mBadDeed.at_
  have tI_BadDeed := beq_iff_eq.mp mBadDeed.fn
  obtain ⟨fd_is_deed, GA_is_deed, b_is_deed, k_is_deed, _⟩ := okG_is_deed (P := P) (w := w) X G c
  have g_is_deed : mg "is_deed" = some (.ref (He.ga K "is_deed")) := He.glo_ok X G (c.fact 36 (f := .glo "is_deed") rfl)
  have f_len : mg "len" = none := He.free_ok X G (c.fact 24 (f := .free "len") rfl)
  have f_range : mg "range" = none := He.free_ok X G (c.fact 28 (f := .free "range") rfl)
  refine ⟨fd, fun base => ?_, F.bindsN (fun _ _ _ _ _ _ us hl => match us, hl with | [_, _], _ => rfl), F0.kp, trivial⟩
  have G_BadDeed := GA_BadDeed base
  have G_is_deed := GA_is_deed base
  refine F.ok sc_need_deeds (fun vs H Q E h => by obtain ⟨_, _, _, rfl, _⟩ := h; rfl) (fun cdv A outer s H vs Q E hr h => ⟨t_need_deedsX (ZZ K) (He.ga K "BadDeed") E, ?_, pure_need_deedsX vs H Q E h⟩)
  exact pss_one (ps_for (passes_of rfl) rfl (pi_range1 rfl f_range (pa_cons (pe_callB call_len_seq rfl f_len PySem.boot_len (pa_cons (pv 0) pa_nil)) pa_nil)) (pg_name (i := 2) sc_need_deeds.nd rfl (Or.inl rfl)) (pss_one (ps_if (pt_not (pt_val (pe_call G_is_deed (hr.mono (by decide)) rfl g_is_deed k_is_deed b_is_deed .nil pass0 (pa_cons (pe_ix ix_list (pv 0) (pv 2) (fun _ _ => rfl)) pa_nil)))) (pss_one ((L2N.ps_raise rfl (L2N.takes_of rfl rfl rfl rfl) (SX.pmkN_oex e.bd.1 iC_BadDeed tI_BadDeed G_BadDeed (hr.mono (by decide)) b_BadDeed pass0 rfl g_BadDeed (pa_cons (pv 1) (pa_cons (pv 2) pa_nil)))))) (pss_nil))))
theorem okX_need_programs (X : K.In h) (G : h.Ns mainGlobals mg) (c : He.SaysD fa fn K) (e : SX.ExK K) : ∃ fd, (∀ base, FnOk P w K mg base (L2N.CX P w) 4 (He.fAd K d_need_programs.at_) fd ["programs"] (sp_need_programsX (ZZ K) (He.ga K "BadDeed"))) ∧ Binds K fd ["programs"] [] ∧ PySem.W.keepIn K (.ref (He.fAd K d_need_programs.at_)) = true ∧ True := by
  obtain ⟨fd, F0⟩ := c.def_ 11 (d := d_need_programs) rfl
  have F : FunD K "need_programs" "need_programs" (defArgs s_need_programs) (defBody s_need_programs) (defScope s_need_programs) [] [] (He.fAd K ("need_programs", none)) fd := F0
  obtain ⟨fd_BadDeed, GA_BadDeed, b_BadDeed, k_BadDeed, _⟩ := ok_BadDeed (P := P) (w := w) X G c e
  have g_BadDeed : mg "BadDeed" = some (.ref (He.ga K "BadDeed")) := He.glo_ok X G (c.fact 76 (f := .glo "BadDeed") rfl)
  have mBadDeed : Meth K (He.ga K "BadDeed") "__init__" (He.ma K (He.ga K "BadDeed") "__init__") := He.meth_ok (c.fact 81 (f := .meth "BadDeed" "__init__") rfl)
  have iC_BadDeed := mBadDeed.at_
  have tI_BadDeed := beq_iff_eq.mp mBadDeed.fn
  obtain ⟨fd_need_deeds, GXA_need_deeds, b_need_deeds, k_need_deeds, _⟩ := okX_need_deeds (P := P) (w := w) X G c e
  have g_need_deeds : mg "need_deeds" = some (.ref (He.ga K "need_deeds")) := He.glo_ok X G (c.fact 37 (f := .glo "need_deeds") rfl)
  have f_len : mg "len" = none := He.free_ok X G (c.fact 24 (f := .free "len") rfl)
  have f_range : mg "range" = none := He.free_ok X G (c.fact 28 (f := .free "range") rfl)
  have gi_MOST_HANDS : ∃ t, mg "MOST_HANDS" = some (.int 3 t) := He.int_ok X G (c.fact 39 (f := .int "MOST_HANDS" 3) rfl)
  have gi_MOST_DEEDS : ∃ t, mg "MOST_DEEDS" = some (.int 4 t) := He.int_ok X G (c.fact 40 (f := .int "MOST_DEEDS" 4) rfl)
  refine ⟨fd, fun base => ?_, F.bindsN (fun _ _ _ _ _ _ us hl => match us, hl with | [_], _ => rfl), F0.kp, trivial⟩
  have G_BadDeed := GA_BadDeed base
  have GX_need_deeds := GXA_need_deeds base
  refine F.ok sc_need_programs (fun vs H Q E h => by obtain ⟨_, _, _, rfl, _⟩ := h; rfl) (fun cdv A outer s H vs Q E hr h => ⟨t_need_programsX (ZZ K) (He.ga K "BadDeed") E, ?_, pure_need_programsX vs H Q E h⟩)
  exact pss_cons (ps_if (pt_not (pt_chain op_le op_le pe_int (pe_callB call_len_seq rfl f_len PySem.boot_len (pa_cons (pv 0) pa_nil)) (pe_glob rfl gi_MOST_HANDS.choose_spec ⟨_, rfl⟩))) (pss_one ((L2N.ps_raise rfl (L2N.takes_of rfl rfl rfl rfl) (SX.pmkN_oex e.bd.1 iC_BadDeed tI_BadDeed G_BadDeed (hr.mono (by decide)) b_BadDeed pass0 rfl g_BadDeed (pa_cons (pe_callB call_len_seq rfl f_len PySem.boot_len (pa_cons (pv 0) pa_nil)) (pa_cons pe_int pa_nil)))))) (pss_nil))
      (pss_one (ps_for (passes_of rfl) rfl (pi_range1 rfl f_range (pa_cons (pe_callB call_len_seq rfl f_len PySem.boot_len (pa_cons (pv 0) pa_nil)) pa_nil)) (pg_name (i := 1) sc_need_programs.nd rfl (Or.inl rfl)) (pss_cons (ps_if (pt_cmpR op_gt (pe_callB call_len_seq rfl f_len PySem.boot_len (pa_cons (pe_ix ix_list (pv 0) (pv 1) (fun _ _ => rfl)) pa_nil)) (pe_glob rfl gi_MOST_DEEDS.choose_spec ⟨_, rfl⟩) (nomark _)) (pss_one ((L2N.ps_raise rfl (L2N.takes_of rfl rfl rfl rfl) (SX.pmkN_oex e.bd.1 iC_BadDeed tI_BadDeed G_BadDeed (hr.mono (by decide)) b_BadDeed pass0 rfl g_BadDeed (pa_cons (pv 1) (pa_cons (pe_glob rfl gi_MOST_DEEDS.choose_spec ⟨_, rfl⟩) pa_nil)))))) (pss_nil))
      (pss_one (ps_expr (pe_callS GX_need_deeds (hr.mono (by decide)) rfl g_need_deeds k_need_deeds b_need_deeds (fun σ => L2N.passAt (L2N.takes_of rfl rfl rfl rfl) σ) (pa_cons (pe_ix ix_list (pv 0) (pv 1) (fun _ _ => rfl)) (pa_cons (pv 1) pa_nil))))))))
theorem ok_L_is (X : K.In h) (G : h.Ns mainGlobals mg) (c : He.SaysD fa fn K) (e : SX.ExK K) : ∃ fd, (∀ base, SX.FnP P w K mg base CX0 3 (He.fAd K d_L_is.at_) fd ["_law_e", "_law_word"] (sp_L_is (SX.c4 K))) ∧ Binds K fd ["_law_e", "_law_word"] [] ∧ PySem.W.keepIn K (.ref (He.fAd K d_L_is.at_)) = true ∧ True := by
  obtain ⟨fd, F0⟩ := c.def_ 38 (d := d_L_is) rfl
  have F : FunD K "_law_is" "_law_is" (defArgs s_L_is) (defBody s_L_is) (defScope s_L_is) [] [] (He.fAd K ("_law_is", none)) fd := F0
  have g_BadPile : mg "BadPile" = some (.ref (He.ga K "BadPile")) := He.glo_ok X G (c.fact 77 (f := .glo "BadPile") rfl)
  have g_BadDeed : mg "BadDeed" = some (.ref (He.ga K "BadDeed")) := He.glo_ok X G (c.fact 76 (f := .glo "BadDeed") rfl)
  have g_BadRule : mg "BadRule" = some (.ref (He.ga K "BadRule")) := He.glo_ok X G (c.fact 78 (f := .glo "BadRule") rfl)
  have g_NoHand : mg "NoHand" = some (.ref (He.ga K "NoHand")) := He.glo_ok X G (c.fact 79 (f := .glo "NoHand") rfl)
  have f_isinstance : mg "isinstance" = none := He.free_ok X G (c.fact 47 (f := .free "isinstance") rfl)
  have f_ValueError : mg "ValueError" = none := He.free_ok X G (c.fact 88 (f := .free "ValueError") rfl)
  refine ⟨fd, fun base => ?_, F.bindsN (fun _ _ _ _ _ _ us hl => match us, hl with | [_, _], _ => rfl), F0.kp, trivial⟩
  refine SX.fnP_ok (k := 2) F sc_L_is (fun pin vs H Q E h => by obtain ⟨_, _, _, rfl, _⟩ := h; rfl) (fun cdv pin A outer s H vs Q E hot hr h => ⟨t_L_is (ZZ K) (SX.c4 K) pin, PSs.nox ?_, pure_L_is (Z := ZZ K) e.ks vs H Q E h⟩)
  have hot1 : L2H.Hot1 (A.deeper (envOfC "_law_is" (defScope s_L_is) s.heap.objs.size (He.fAd K ("_law_is", none)) cdv)) pin := hot
  exact pss_cons (ps_set (i := 2) sc_L_is.nd rfl (Or.inl rfl) (pe_lst (pa_cons (pe_callB (SX.call_isP (List.mem_singleton.mpr rfl)) rfl f_isinstance (by decide +kernel) (pa_cons (pv 0) (pa_cons (pe_glob rfl g_BadPile rfl) pa_nil))) (pa_cons (pe_callB (SX.call_isP (List.mem_singleton.mpr rfl)) rfl f_isinstance (by decide +kernel) (pa_cons (pv 0) (pa_cons (pe_glob rfl g_BadDeed rfl) pa_nil))) (pa_cons (pe_callB (SX.call_isP (List.mem_singleton.mpr rfl)) rfl f_isinstance (by decide +kernel) (pa_cons (pv 0) (pa_cons (pe_glob rfl g_BadRule rfl) pa_nil))) (pa_cons (pe_callB (SX.call_isP (List.mem_singleton.mpr rfl)) rfl f_isinstance (by decide +kernel) (pa_cons (pv 0) (pa_cons (pe_glob rfl g_NoHand rfl) pa_nil))) pa_nil))))))
    (pss_cons (ps_set (i := 3) sc_L_is.nd rfl (Or.inl rfl) (pe_lst (pa_cons pe_str (pa_cons pe_str (pa_cons pe_str (pa_cons pe_str pa_nil))))))
    (pss_one (ps_ret (pe_and (pe_callB (SX.call_isP (List.mem_singleton.mpr rfl)) rfl f_isinstance (by decide +kernel) (pa_cons (pv 0) (pa_cons (pe_bltn rfl f_ValueError (by decide +kernel) rfl) pa_nil))) (pe_one (pe_cmpR (op_eqD (SX.roomH_u hr)) (pv 2) (SX.pe_lcS (pin := pin) (k := 4) (List.mem_singleton.mpr rfl) hot1 sc_L_is.nd (pv 3) (blkOk_by (N := ["_law_e", "_law_word", "_law_kinds", "_law_words", "_law_one"]) (sc := defScope s_L_is) (by decide +kernel)) (fun _ _ _ _ _ => pg_name (i := 4) sc_L_is.nd rfl (Or.inl rfl)) (fun _ _ _ _ _ => pe_cmpR op_eq (pv 1) (pv 4) (nomark _))) (nomark _)))))))
theorem okX_need_rule (X : K.In h) (G : h.Ns mainGlobals mg) (c : He.SaysD fa fn K) (e2 : SX.ExK2 K) : ∃ fd, (∀ base, FnOk P w K mg base (L2N.CX P w) 3 (He.fAd K d_need_rule.at_) fd ["rule", "many"] (sp_need_ruleX (ZZ K) (SX.c4 K))) ∧ Binds K fd ["rule", "many"] [] ∧ PySem.W.keepIn K (.ref (He.fAd K d_need_rule.at_)) = true ∧ ∃ oc od osl, K.lookup (He.fAd K d_need_rule.at_) = some ⟨oc, od, .func fd, osl⟩ := by
  obtain ⟨fd, F0⟩ := c.def_ 12 (d := d_need_rule) rfl
  have F : FunD K "need_rule" "need_rule" (defArgs s_need_rule) (defBody s_need_rule) (defScope s_need_rule) [] [] (He.fAd K ("need_rule", none)) fd := F0
  have g_BadRule : mg "BadRule" = some (.ref (He.ga K "BadRule")) := He.glo_ok X G (c.fact 78 (f := .glo "BadRule") rfl)
  have f_len : mg "len" = none := He.free_ok X G (c.fact 24 (f := .free "len") rfl)
  have f_range : mg "range" = none := He.free_ok X G (c.fact 28 (f := .free "range") rfl)
  have gi_MOST_COUNTS : ∃ t, mg "MOST_COUNTS" = some (.int 15 t) := He.int_ok X G (c.fact 42 (f := .int "MOST_COUNTS" 15) rfl)
  refine ⟨fd, fun base => ?_, F.bindsN (fun _ _ _ _ _ _ us hl => match us, hl with | [_, _], _ => rfl), F0.kp, (by obtain ⟨oc, od, dV, kV, doc, pm, an, cdv, ct, osl, e, lk, _⟩ := F0.ex; exact ⟨oc, od, osl, lk⟩)⟩
  refine F.ok sc_need_rule (fun vs H Q E h => by obtain ⟨_, _, _, rfl, _⟩ := h; rfl) (fun cdv A outer s H vs Q E hr h => ⟨t_need_ruleX (ZZ K) (SX.c4 K 2) E, ?_, pure_need_ruleX (c := SX.c4 K) vs H Q E h⟩)
  exact pss_cons (ps_if (pt_cmpR (op_eqD hr.units) (pv 0) (pe_tup (pa_cons pe_str pa_nil)) (nomark _)) (pss_one (ps_retN)) (pss_nil))
      (pss_cons (ps_if (PW.pt (pw_or (pt_cmpR op_ne (pe_callB call_len_seq rfl f_len PySem.boot_len (pa_cons (pv 0) pa_nil)) pe_int (nomark _)) (pw_or1 (pt_cmpR op_notIn_seq (pe_ix ix_tup (pv 0) pe_int (fun _ _ => rfl)) (pe_tup (pa_cons pe_str (pa_cons pe_str pa_nil))) (by rfl))))) (pss_one ((SX.ps_rzO e2.br rfl (L2N.takes_of rfl rfl rfl rfl) rfl g_BadRule))) (pss_nil))
      (pss_one (ps_if (pt_cmpR op_eq (pe_ix ix_tup (pv 0) pe_int (fun _ _ => rfl)) pe_str (nomark _)) (pss_one (ps_if (pt_not (pt_chain op_le op_le pe_int (pe_ix ix_tup (pv 0) pe_int (fun _ _ => rfl)) (pe_glob rfl gi_MOST_COUNTS.choose_spec ⟨_, rfl⟩))) (pss_one ((SX.ps_rzO e2.br rfl (L2N.takes_of rfl rfl rfl rfl) rfl g_BadRule))) (pss_nil))) (pss_one (ps_for (passes_of rfl) rfl (pi_range1 rfl f_range (pa_cons (pe_callB call_len_seq rfl f_len PySem.boot_len (pa_cons (pe_ix ix_tup (pv 0) pe_int (fun _ _ => rfl)) pa_nil)) pa_nil)) (pg_name (i := 2) sc_need_rule.nd rfl (Or.inl rfl)) (pss_one (ps_if (PW.pt (pw_or (pt_not (pt_chain op_le op_lt pe_int (pe_ix ix_tup (pe_ix ix_tup (pv 0) pe_int (fun _ _ => rfl)) (pv 2) (fun _ _ => rfl)) (pv 1))) (pw_or1 (PW.pt (pw_and (pt_cmpR op_gt (pv 2) pe_int (nomark _)) (pw_and1 (pt_cmpR op_le (pe_ix ix_tup (pe_ix ix_tup (pv 0) pe_int (fun _ _ => rfl)) (pv 2) (fun _ _ => rfl)) (pe_ix ix_tup (pe_ix ix_tup (pv 0) pe_int (fun _ _ => rfl)) (pe_op op_sub (pv 2) pe_int) (fun _ _ => rfl)) (nomark _)))))))) (pss_one ((SX.ps_rzO e2.br rfl (L2N.takes_of rfl rfl rfl rfl) rfl g_BadRule))) (pss_nil))))))))
theorem okX_M_init (X : K.In h) (G : h.Ns mainGlobals mg) (c : He.SaysD fa fn K) (e2 : SX.ExK2 K) : ∃ fd, (∀ base, FnOk P w K mg base (L2N.CX P w) 5 (He.fAd K d_M_init.at_) fd ["self", "values", "programs", "rule"] (sp_M_initW (ZZ K) (SX.c4 K))) ∧ Binds K fd ["self", "values", "programs", "rule"] [] ∧ PySem.W.keepIn K (.ref (He.fAd K d_M_init.at_)) = true ∧ ∃ oc od osl, K.lookup (He.fAd K d_M_init.at_) = some ⟨oc, od, .func fd, osl⟩ := by
  obtain ⟨fd, F0⟩ := c.def_ 14 (d := d_M_init) rfl
  have F : FunD K "__init__" "Machine.__init__" (defArgs s_M_init) (defBody s_M_init) (defScope s_M_init) [] [] (He.fAd K ("Machine", some "__init__")) fd := F0
  obtain ⟨fd_need_values, GXA_need_values, b_need_values, k_need_values, lk_need_values⟩ := okX_need_values (P := P) (w := w) X G c e2.e
  obtain ⟨fd_need_programs, GXA_need_programs, b_need_programs, k_need_programs, lk_need_programs⟩ := okX_need_programs (P := P) (w := w) X G c e2.e
  obtain ⟨fd_need_rule, GXA_need_rule, b_need_rule, k_need_rule, lk_need_rule⟩ := okX_need_rule (P := P) (w := w) X G c e2
  have g_need_values : mg "need_values" = some (.ref (He.ga K "need_values")) := He.glo_ok X G (c.fact 33 (f := .glo "need_values") rfl)
  have g_need_programs : mg "need_programs" = some (.ref (He.ga K "need_programs")) := He.glo_ok X G (c.fact 38 (f := .glo "need_programs") rfl)
  have g_need_rule : mg "need_rule" = some (.ref (He.ga K "need_rule")) := He.glo_ok X G (c.fact 41 (f := .glo "need_rule") rfl)
  have f_len : mg "len" = none := He.free_ok X G (c.fact 24 (f := .free "len") rfl)
  refine ⟨fd, fun base => ?_, F.bindsN (fun _ _ _ _ _ _ us hl => match us, hl with | [_, _, _, _], _ => rfl), F0.kp, (by obtain ⟨oc, od, dV, kV, doc, pm, an, cdv, ct, osl, e, lk, _⟩ := F0.ex; exact ⟨oc, od, osl, lk⟩)⟩
  have GX_need_values := GXA_need_values base
  have GX_need_programs := GXA_need_programs base
  have GX_need_rule := GXA_need_rule base
  refine F.ok sc_M_init (fun vs H Q E h => by obtain ⟨_, _, _, _, _, rfl, _⟩ := h; rfl) (fun cdv A outer s H vs Q E hr h => ⟨t_M_initW (ZZ K) (SX.c4 K) E, ?_, pure_M_initW (c := SX.c4 K) vs H Q E h⟩)
  exact pss_cons (ps_expr (pe_callS GX_need_values (hr.mono (by decide)) rfl g_need_values k_need_values b_need_values (fun σ => L2N.passAt (L2N.takes_of rfl rfl rfl rfl) σ) (pa_cons (pv 1) pa_nil))) (pss_cons (ps_expr (pe_callS GX_need_programs (hr.mono (by decide)) rfl g_need_programs k_need_programs b_need_programs (fun σ => L2N.passAt (L2N.takes_of rfl rfl rfl rfl) σ) (pa_cons (pv 2) pa_nil))) (SS.pss_stop (ps_expr (pe_callS GX_need_rule (hr.mono (by decide)) rfl g_need_rule k_need_rule b_need_rule (fun σ => L2N.passAt (L2N.takes_of rfl rfl rfl rfl) σ) (pa_cons (pv 3) (pa_cons (pe_callB call_len_seq rfl f_len PySem.boot_len (pa_cons (pv 2) pa_nil)) pa_nil))))))
theorem okX_M_need_hand (X : K.In h) (G : h.Ns mainGlobals mg) (c : He.SaysD fa fn K) (e2 : SX.ExK2 K) : ∃ fd, (∀ base, FnOk P w K mg base (L2N.CX P w) 3 (He.fAd K d_M_need_hand.at_) fd ["self", "hand"] (sp_handX (ZZ K) (SX.c4 K))) ∧ Binds K fd ["self", "hand"] [] ∧ PySem.W.keepIn K (.ref (He.fAd K d_M_need_hand.at_)) = true ∧ ∃ oc od osl, K.lookup (He.fAd K d_M_need_hand.at_) = some ⟨oc, od, .func fd, osl⟩ := by
  obtain ⟨fd, F0⟩ := c.def_ 15 (d := d_M_need_hand) rfl
  have F : FunD K "need_hand" "Machine.need_hand" (defArgs s_M_need_hand) (defBody s_M_need_hand) (defScope s_M_need_hand) [] [] (He.fAd K ("Machine", some "need_hand")) fd := F0
  have g_NoHand : mg "NoHand" = some (.ref (He.ga K "NoHand")) := He.glo_ok X G (c.fact 79 (f := .glo "NoHand") rfl)
  have f_len : mg "len" = none := He.free_ok X G (c.fact 24 (f := .free "len") rfl)
  refine ⟨fd, fun base => ?_, F.bindsN (fun _ _ _ _ _ _ us hl => match us, hl with | [_, _], _ => rfl), F0.kp, (by obtain ⟨oc, od, dV, kV, doc, pm, an, cdv, ct, osl, e, lk, _⟩ := F0.ex; exact ⟨oc, od, osl, lk⟩)⟩
  refine F.ok sc_M_need_hand (fun vs H Q E h => by obtain ⟨_, _, _, rfl, _⟩ := h; rfl) (fun cdv A outer s H vs Q E hr h => ⟨t_M_need_handX (ZZ K) (SX.c4 K) E, ?_, pure_M_need_handX (zok c) (c := SX.c4 K) vs H Q E h⟩)
  exact SS.pss_stop (ps_if (pt_not (pt_chain op_le op_lt pe_int (pv 1) (pe_callB call_len_seq rfl f_len PySem.boot_len (pa_cons (pe_fld (pv 0) rfl) pa_nil)))) (pss_one ((SX.ps_rzO e2.nh rfl (L2N.takes_of rfl rfl rfl rfl) rfl g_NoHand))) (pss_nil))
theorem okX_M_turn (X : K.In h) (G : h.Ns mainGlobals mg) (c : He.SaysD fa fn K) (e2 : SX.ExK2 K) : ∃ fd, (∀ base, FnOk P w K mg base (L2N.CX P w) 4 (He.fAd K d_M_turn.at_) fd ["self", "hand"] (sp_handX (ZZ K) (SX.c4 K))) ∧ Binds K fd ["self", "hand"] [] ∧ PySem.W.keepIn K (.ref (He.fAd K d_M_turn.at_)) = true ∧ ∃ oc od osl, K.lookup (He.fAd K d_M_turn.at_) = some ⟨oc, od, .func fd, osl⟩ := by
  obtain ⟨fd, F0⟩ := c.def_ 32 (d := d_M_turn) rfl
  have F : FunD K "turn" "Machine.turn" (defArgs s_M_turn) (defBody s_M_turn) (defScope s_M_turn) [] [] (He.fAd K ("Machine", some "turn")) fd := F0
  obtain ⟨fd_need_hand, GXA_need_hand, b_need_hand, k_need_hand, lk_need_hand⟩ := okX_M_need_hand (P := P) (w := w) X G c e2
  have cl_M : Cls K (He.ga K "Machine") := He.cls_ok (c.fact 0 (f := .cls "Machine") rfl)
  have m_need_hand : Meth K (He.ga K "Machine") "need_hand" (He.ma K (He.ga K "Machine") "need_hand") := He.meth_ok (c.fact 44 (f := .meth "Machine" "need_hand") rfl)
  refine ⟨fd, fun base => ?_, F.bindsN (fun _ _ _ _ _ _ us hl => match us, hl with | [_, _], _ => rfl), F0.kp, (by obtain ⟨oc, od, dV, kV, doc, pm, an, cdv, ct, osl, e, lk, _⟩ := F0.ex; exact ⟨oc, od, osl, lk⟩)⟩
  have GX_need_hand := GXA_need_hand base
  refine F.ok sc_M_turn (fun vs H Q E h => by obtain ⟨_, _, _, rfl, _⟩ := h; rfl) (fun cdv A outer s H vs Q E hr h => ⟨t_M_turnX (ZZ K) (SX.c4 K) E, ?_, pure_M_turnX (c := SX.c4 K) vs H Q E h⟩)
  exact SS.pss_stop (ps_set (i := 2) sc_M_turn.nd rfl (Or.inl rfl) (pe_meth (pv 0) cl_M m_need_hand GX_need_hand (hr.mono (by decide)) b_need_hand .nil (fun pins σ H s e s' => (fun σ => L2N.passAt (L2N.takes_of rfl rfl rfl rfl) σ) σ pins H s e s') (pa_cons (pv 1) pa_nil)))
theorem okX_M_answers (X : K.In h) (G : h.Ns mainGlobals mg) (c : He.SaysD fa fn K) (e2 : SX.ExK2 K) : ∃ fd, (∀ base, FnOk P w K mg base (L2N.CX P w) 4 (He.fAd K d_M_answers.at_) fd ["self", "hand"] (sp_handX (ZZ K) (SX.c4 K))) ∧ Binds K fd ["self", "hand"] [] ∧ PySem.W.keepIn K (.ref (He.fAd K d_M_answers.at_)) = true ∧ ∃ oc od osl, K.lookup (He.fAd K d_M_answers.at_) = some ⟨oc, od, .func fd, osl⟩ := by
  obtain ⟨fd, F0⟩ := c.def_ 16 (d := d_M_answers) rfl
  have F : FunD K "answers" "Machine.answers" (defArgs s_M_answers) (defBody s_M_answers) (defScope s_M_answers) [] [] (He.fAd K ("Machine", some "answers")) fd := F0
  obtain ⟨fd_need_hand, GXA_need_hand, b_need_hand, k_need_hand, lk_need_hand⟩ := okX_M_need_hand (P := P) (w := w) X G c e2
  have f_list : mg "list" = none := He.free_ok X G (c.fact 43 (f := .free "list") rfl)
  have cl_M : Cls K (He.ga K "Machine") := He.cls_ok (c.fact 0 (f := .cls "Machine") rfl)
  have m_need_hand : Meth K (He.ga K "Machine") "need_hand" (He.ma K (He.ga K "Machine") "need_hand") := He.meth_ok (c.fact 44 (f := .meth "Machine" "need_hand") rfl)
  refine ⟨fd, fun base => ?_, F.bindsN (fun _ _ _ _ _ _ us hl => match us, hl with | [_, _], _ => rfl), F0.kp, (by obtain ⟨oc, od, dV, kV, doc, pm, an, cdv, ct, osl, e, lk, _⟩ := F0.ex; exact ⟨oc, od, osl, lk⟩)⟩
  have GX_need_hand := GXA_need_hand base
  refine F.ok sc_M_answers (fun vs H Q E h => by obtain ⟨_, _, _, rfl, _⟩ := h; rfl) (fun cdv A outer s H vs Q E hr h => ⟨t_M_answersX (ZZ K) (SX.c4 K) E, ?_, pure_M_answersX (c := SX.c4 K) vs H Q E h⟩)
  exact pss_one (ps_ret (pe_callTy call_list_of rfl f_list (by decide +kernel) (pa_cons (pe_fld (pe_meth (pv 0) cl_M m_need_hand GX_need_hand (hr.mono (by decide)) b_need_hand .nil (fun pins σ H s e s' => (fun σ => L2N.passAt (L2N.takes_of rfl rfl rfl rfl) σ) σ pins H s e s') (pa_cons (pv 1) pa_nil)) rfl) pa_nil)))
theorem okX_M_marked (X : K.In h) (G : h.Ns mainGlobals mg) (c : He.SaysD fa fn K) (e2 : SX.ExK2 K) : ∃ fd, (∀ base, FnOk P w K mg base (L2N.CX P w) 4 (He.fAd K d_M_marked.at_) fd ["self", "hand"] (sp_handX (ZZ K) (SX.c4 K))) ∧ Binds K fd ["self", "hand"] [] ∧ PySem.W.keepIn K (.ref (He.fAd K d_M_marked.at_)) = true ∧ ∃ oc od osl, K.lookup (He.fAd K d_M_marked.at_) = some ⟨oc, od, .func fd, osl⟩ := by
  obtain ⟨fd, F0⟩ := c.def_ 19 (d := d_M_marked) rfl
  have F : FunD K "marked" "Machine.marked" (defArgs s_M_marked) (defBody s_M_marked) (defScope s_M_marked) [] [] (He.fAd K ("Machine", some "marked")) fd := F0
  obtain ⟨fd_need_hand, GXA_need_hand, b_need_hand, k_need_hand, lk_need_hand⟩ := okX_M_need_hand (P := P) (w := w) X G c e2
  have cl_M : Cls K (He.ga K "Machine") := He.cls_ok (c.fact 0 (f := .cls "Machine") rfl)
  have m_need_hand : Meth K (He.ga K "Machine") "need_hand" (He.ma K (He.ga K "Machine") "need_hand") := He.meth_ok (c.fact 44 (f := .meth "Machine" "need_hand") rfl)
  refine ⟨fd, fun base => ?_, F.bindsN (fun _ _ _ _ _ _ us hl => match us, hl with | [_, _], _ => rfl), F0.kp, (by obtain ⟨oc, od, dV, kV, doc, pm, an, cdv, ct, osl, e, lk, _⟩ := F0.ex; exact ⟨oc, od, osl, lk⟩)⟩
  have GX_need_hand := GXA_need_hand base
  refine F.ok sc_M_marked (fun vs H Q E h => by obtain ⟨_, _, _, rfl, _⟩ := h; rfl) (fun cdv A outer s H vs Q E hr h => ⟨t_M_markedX (ZZ K) (SX.c4 K) E, ?_, pure_M_markedX (c := SX.c4 K) vs H Q E h⟩)
  exact pss_one (ps_ret (pe_fld (pe_meth (pv 0) cl_M m_need_hand GX_need_hand (hr.mono (by decide)) b_need_hand .nil (fun pins σ H s e s' => (fun σ => L2N.passAt (L2N.takes_of rfl rfl rfl rfl) σ) σ pins H s e s') (pa_cons (pv 1) pa_nil)) rfl))
theorem okX_played (X : K.In h) (G : h.Ns mainGlobals mg) (c : He.SaysD fa fn K) (e2 : SX.ExK2 K) : ∃ fd, (∀ base, FnOk P w K mg base (L2N.CX P w) 7 (He.fAd K d_played.at_) fd ["values", "programs", "rule", "weaving"] (sp_takesW (ZZ K) (SX.c4 K) 1)) ∧ Binds K fd ["values", "programs", "rule", "weaving"] [] ∧ PySem.W.keepIn K (.ref (He.fAd K d_played.at_)) = true ∧ ∃ oc od osl, K.lookup (He.fAd K d_played.at_) = some ⟨oc, od, .func fd, osl⟩ := by
  obtain ⟨fd, F0⟩ := c.def_ 33 (d := d_played) rfl
  have F : FunD K "played" "played" (defArgs s_played) (defBody s_played) (defScope s_played) [] [] (He.fAd K ("played", none)) fd := F0
  obtain ⟨fd_M_init, GXA_M_init, b_M_init, k_M_init, lk_M_init⟩ := okX_M_init (P := P) (w := w) X G c e2
  have g_Machine : mg "Machine" = some (.ref (He.ga K "Machine")) := He.glo_ok X G (c.fact 21 (f := .glo "Machine") rfl)
  have mk_M : Mk K (He.ga K "Machine") (He.ma K (He.ga K "Machine") "__init__") := He.mkr_ok (c.fact 2 (f := .mkr "Machine") rfl)
  refine ⟨fd, fun base => ?_, F.bindsN (fun _ _ _ _ _ _ us hl => match us, hl with | [_, _, _, _], _ => rfl), F0.kp, (by obtain ⟨oc, od, dV, kV, doc, pm, an, cdv, ct, osl, e, lk, _⟩ := F0.ex; exact ⟨oc, od, osl, lk⟩)⟩
  have GX_M_init := GXA_M_init base
  refine F.ok sc_played (fun vs H Q E h => by obtain ⟨_, _, _, r, _, rfl, hl, _⟩ := h; show r.length + 3 = _; rw [hl]; rfl) (fun cdv A outer s H vs Q E hr h => ⟨t_takesW (ZZ K) (SX.c4 K) E 4, ?_, pure_takesW (c := SX.c4 K) vs H Q E _ h⟩)
  exact SS.pss_stop (ps_set (i := 4) sc_played.nd rfl (Or.inr rfl) (pe_makeS mk_M GX_M_init (hr.mono (by decide)) rfl g_Machine b_M_init .nil (fun σ => L2N.passAt (L2N.takes_of rfl rfl rfl rfl) σ) (pa_cons (pv 0) (pa_cons (pv 1) (pa_cons (pv 2) pa_nil)))))
theorem okX_whole (X : K.In h) (G : h.Ns mainGlobals mg) (c : He.SaysD fa fn K) (e2 : SX.ExK2 K) : ∃ fd, (∀ base, FnOk P w K mg base (L2N.CX P w) 7 (He.fAd K d_whole.at_) fd ["values", "programs", "rule", "weaving"] (sp_takesW (ZZ K) (SX.c4 K) 1)) ∧ Binds K fd ["values", "programs", "rule", "weaving"] [] ∧ PySem.W.keepIn K (.ref (He.fAd K d_whole.at_)) = true ∧ ∃ oc od osl, K.lookup (He.fAd K d_whole.at_) = some ⟨oc, od, .func fd, osl⟩ := by
  obtain ⟨fd, F0⟩ := c.def_ 34 (d := d_whole) rfl
  have F : FunD K "whole" "whole" (defArgs s_whole) (defBody s_whole) (defScope s_whole) [] [] (He.fAd K ("whole", none)) fd := F0
  obtain ⟨fd_M_init, GXA_M_init, b_M_init, k_M_init, lk_M_init⟩ := okX_M_init (P := P) (w := w) X G c e2
  have g_Machine : mg "Machine" = some (.ref (He.ga K "Machine")) := He.glo_ok X G (c.fact 21 (f := .glo "Machine") rfl)
  have mk_M : Mk K (He.ga K "Machine") (He.ma K (He.ga K "Machine") "__init__") := He.mkr_ok (c.fact 2 (f := .mkr "Machine") rfl)
  refine ⟨fd, fun base => ?_, F.bindsN (fun _ _ _ _ _ _ us hl => match us, hl with | [_, _, _, _], _ => rfl), F0.kp, (by obtain ⟨oc, od, dV, kV, doc, pm, an, cdv, ct, osl, e, lk, _⟩ := F0.ex; exact ⟨oc, od, osl, lk⟩)⟩
  have GX_M_init := GXA_M_init base
  refine F.ok sc_whole (fun vs H Q E h => by obtain ⟨_, _, _, r, _, rfl, hl, _⟩ := h; show r.length + 3 = _; rw [hl]; rfl) (fun cdv A outer s H vs Q E hr h => ⟨t_takesW (ZZ K) (SX.c4 K) E 4, ?_, pure_takesW (c := SX.c4 K) vs H Q E _ h⟩)
  exact SS.pss_stop (ps_set (i := 4) sc_whole.nd rfl (Or.inr rfl) (pe_makeS mk_M GX_M_init (hr.mono (by decide)) rfl g_Machine b_M_init .nil (fun σ => L2N.passAt (L2N.takes_of rfl rfl rfl rfl) σ) (pa_cons (pv 0) (pa_cons (pv 1) (pa_cons (pv 2) pa_nil)))))
theorem okX_stale (X : K.In h) (G : h.Ns mainGlobals mg) (c : He.SaysD fa fn K) (e2 : SX.ExK2 K) : ∃ fd, (∀ base, FnOk P w K mg base (L2N.CX P w) 7 (He.fAd K d_stale.at_) fd ["values", "programs", "rule"] (sp_takesW (ZZ K) (SX.c4 K) 0)) ∧ Binds K fd ["values", "programs", "rule"] [] ∧ PySem.W.keepIn K (.ref (He.fAd K d_stale.at_)) = true ∧ ∃ oc od osl, K.lookup (He.fAd K d_stale.at_) = some ⟨oc, od, .func fd, osl⟩ := by
  obtain ⟨fd, F0⟩ := c.def_ 35 (d := d_stale) rfl
  have F : FunD K "stale" "stale" (defArgs s_stale) (defBody s_stale) (defScope s_stale) [] [] (He.fAd K ("stale", none)) fd := F0
  obtain ⟨fd_M_init, GXA_M_init, b_M_init, k_M_init, lk_M_init⟩ := okX_M_init (P := P) (w := w) X G c e2
  have g_Machine : mg "Machine" = some (.ref (He.ga K "Machine")) := He.glo_ok X G (c.fact 21 (f := .glo "Machine") rfl)
  have mk_M : Mk K (He.ga K "Machine") (He.ma K (He.ga K "Machine") "__init__") := He.mkr_ok (c.fact 2 (f := .mkr "Machine") rfl)
  refine ⟨fd, fun base => ?_, F.bindsN (fun _ _ _ _ _ _ us hl => match us, hl with | [_, _, _], _ => rfl), F0.kp, (by obtain ⟨oc, od, dV, kV, doc, pm, an, cdv, ct, osl, e, lk, _⟩ := F0.ex; exact ⟨oc, od, osl, lk⟩)⟩
  have GX_M_init := GXA_M_init base
  refine F.ok sc_stale (fun vs H Q E h => by obtain ⟨_, _, _, r, _, rfl, hl, _⟩ := h; show r.length + 3 = _; rw [hl]; rfl) (fun cdv A outer s H vs Q E hr h => ⟨t_takesW (ZZ K) (SX.c4 K) E 3, ?_, pure_takesW (c := SX.c4 K) vs H Q E _ h⟩)
  exact SS.pss_stop (ps_set (i := 3) sc_stale.nd rfl (Or.inl rfl) (pe_makeS mk_M GX_M_init (hr.mono (by decide)) rfl g_Machine b_M_init .nil (fun σ => L2N.passAt (L2N.takes_of rfl rfl rfl rfl) σ) (pa_cons (pv 0) (pa_cons (pv 1) (pa_cons (pv 2) pa_nil)))))
theorem okX_least_marks (X : K.In h) (G : h.Ns mainGlobals mg) (c : He.SaysD fa fn K) (e2 : SX.ExK2 K) : ∃ fd, (∀ base, FnOk P w K mg base (L2N.CX P w) 7 (He.fAd K d_least_marks.at_) fd ["values", "programs"] (sp_takes2W (ZZ K) (SX.c4 K))) ∧ Binds K fd ["values", "programs"] [] ∧ PySem.W.keepIn K (.ref (He.fAd K d_least_marks.at_)) = true ∧ ∃ oc od osl, K.lookup (He.fAd K d_least_marks.at_) = some ⟨oc, od, .func fd, osl⟩ := by
  obtain ⟨fd, F0⟩ := c.def_ 36 (d := d_least_marks) rfl
  have F : FunD K "least_marks" "least_marks" (defArgs s_least_marks) (defBody s_least_marks) (defScope s_least_marks) [] [] (He.fAd K ("least_marks", none)) fd := F0
  obtain ⟨fd_M_init, GXA_M_init, b_M_init, k_M_init, lk_M_init⟩ := okX_M_init (P := P) (w := w) X G c e2
  have g_Machine : mg "Machine" = some (.ref (He.ga K "Machine")) := He.glo_ok X G (c.fact 21 (f := .glo "Machine") rfl)
  have mk_M : Mk K (He.ga K "Machine") (He.ma K (He.ga K "Machine") "__init__") := He.mkr_ok (c.fact 2 (f := .mkr "Machine") rfl)
  refine ⟨fd, fun base => ?_, F.bindsN (fun _ _ _ _ _ _ us hl => match us, hl with | [_, _], _ => rfl), F0.kp, (by obtain ⟨oc, od, dV, kV, doc, pm, an, cdv, ct, osl, e, lk, _⟩ := F0.ex; exact ⟨oc, od, osl, lk⟩)⟩
  have GX_M_init := GXA_M_init base
  refine F.ok sc_least_marks (fun vs H Q E h => by obtain ⟨_, _, _, rfl, _⟩ := h; rfl) (fun cdv A outer s H vs Q E hr h => ⟨t_least_marksW (ZZ K) (SX.c4 K) E, ?_, pure_least_marksW (c := SX.c4 K) vs H Q E h⟩)
  exact SS.pss_stop (ps_expr (pe_makeS mk_M GX_M_init (hr.mono (by decide)) rfl g_Machine b_M_init .nil (fun σ => L2N.passAt (L2N.takes_of rfl rfl rfl rfl) σ) (pa_cons (pv 0) (pa_cons (pv 1) (pa_cons (pe_tup (pa_cons pe_str pa_nil)) pa_nil)))))
theorem okX_safe_counts (X : K.In h) (G : h.Ns mainGlobals mg) (c : He.SaysD fa fn K) (e2 : SX.ExK2 K) : ∃ fd, (∀ base, FnOk P w K mg base (L2N.CX P w) 8 (He.fAd K d_safe_counts.at_) fd ["values", "programs"] (sp_takes2W (ZZ K) (SX.c4 K))) ∧ Binds K fd ["values", "programs"] [] ∧ PySem.W.keepIn K (.ref (He.fAd K d_safe_counts.at_)) = true ∧ ∃ oc od osl, K.lookup (He.fAd K d_safe_counts.at_) = some ⟨oc, od, .func fd, osl⟩ := by
  obtain ⟨fd, F0⟩ := c.def_ 37 (d := d_safe_counts) rfl
  have F : FunD K "safe_counts" "safe_counts" (defArgs s_safe_counts) (defBody s_safe_counts) (defScope s_safe_counts) [] [] (He.fAd K ("safe_counts", none)) fd := F0
  obtain ⟨fd_stale, GXA_stale, b_stale, k_stale, lk_stale⟩ := okX_stale (P := P) (w := w) X G c e2
  have g_stale : mg "stale" = some (.ref (He.ga K "stale")) := He.glo_ok X G (c.fact 68 (f := .glo "stale") rfl)
  have f_range : mg "range" = none := He.free_ok X G (c.fact 28 (f := .free "range") rfl)
  have gi_MOST_COUNTS : ∃ t, mg "MOST_COUNTS" = some (.int 15 t) := He.int_ok X G (c.fact 42 (f := .int "MOST_COUNTS" 15) rfl)
  refine ⟨fd, fun base => ?_, F.bindsN (fun _ _ _ _ _ _ us hl => match us, hl with | [_, _], _ => rfl), F0.kp, (by obtain ⟨oc, od, dV, kV, doc, pm, an, cdv, ct, osl, e, lk, _⟩ := F0.ex; exact ⟨oc, od, osl, lk⟩)⟩
  have GX_stale := GXA_stale base
  refine F.ok sc_safe_counts (fun vs H Q E h => by obtain ⟨_, _, _, rfl, _⟩ := h; rfl) (fun cdv A outer s H vs Q E hr h => ⟨t_safe_countsW (ZZ K) (SX.c4 K) E, ?_, pure_safe_countsW (c := SX.c4 K) vs H Q E h⟩)
  exact pss_one (ps_ret (SX.pe_lcX (E := E) (own := [("many", 2)]) rfl rfl (L2N.takes_of rfl rfl rfl rfl) rfl sc_safe_counts.nd (pi_range2 rfl f_range (pa_cons pe_int (pa_cons (pe_op op_add (pe_glob rfl gi_MOST_COUNTS.choose_spec ⟨_, rfl⟩) pe_int) pa_nil))) (blkOk_by (own := [("many", 2)]) (N := ["values", "programs", "many"]) (sc := defScope s_safe_counts) (by decide +kernel)) (fun _ _ _ _ _ => (pg_name (i := 2) sc_safe_counts.nd rfl (Or.inl rfl))) (fun _ _ _ _ _ xe pass => pts_one (pt_cmpR op_isN (pe_callS GX_stale (hr.mono (by decide)) rfl g_stale k_stale b_stale pass (pa_cons (pv 0) (pa_cons (pv 1) (pa_cons (pe_tup (pa_cons pe_str (pa_cons (pv 2) pa_nil))) pa_nil)))) pe_non (nomark _))) (fun _ _ _ _ _ _ _ => (pv 2))))
theorem okH_played (X : K.In h) (G : h.Ns mainGlobals mg) (c : He.SaysD fa fn K) (e2 : SX.ExK2 K) : ∃ fd, (∀ base, FnOk P w K mg base (L2N.CX P w) 10 (He.fAd K d_played.at_) fd ["values", "programs", "rule", "weaving"] (sp_playedH (ZZ K) (SX.c4 K))) ∧ Binds K fd ["values", "programs", "rule", "weaving"] [] ∧ PySem.W.keepIn K (.ref (He.fAd K d_played.at_)) = true ∧ ∃ oc od osl, K.lookup (He.fAd K d_played.at_) = some ⟨oc, od, .func fd, osl⟩ := by
  obtain ⟨fd, F0⟩ := c.def_ 33 (d := d_played) rfl
  have F : FunD K "played" "played" (defArgs s_played) (defBody s_played) (defScope s_played) [] [] (He.fAd K ("played", none)) fd := F0
  obtain ⟨fd_turn, GXA_turn, b_turn, k_turn, lk_turn⟩ := okX_M_turn (P := P) (w := w) X G c e2
  obtain ⟨fd_M_init, GA_M_init, bn_M_init, kn_M_init, fn_M_init⟩ := ok_M_init (P := P) (w := w) X G c
  obtain ⟨fd_M_turn, GA_M_turn, bn_M_turn, kn_M_turn, fn_M_turn⟩ := ok_M_turn (P := P) (w := w) X G c
  have g_Machine : mg "Machine" = some (.ref (He.ga K "Machine")) := He.glo_ok X G (c.fact 21 (f := .glo "Machine") rfl)
  have cl_M : Cls K (He.ga K "Machine") := He.cls_ok (c.fact 0 (f := .cls "Machine") rfl)
  have mk_M : Mk K (He.ga K "Machine") (He.ma K (He.ga K "Machine") "__init__") := He.mkr_ok (c.fact 2 (f := .mkr "Machine") rfl)
  have m_turn : Meth K (He.ga K "Machine") "turn" (He.ma K (He.ga K "Machine") "turn") := He.meth_ok (c.fact 65 (f := .meth "Machine" "turn") rfl)
  refine ⟨fd, fun base => ?_, F.bindsN (fun _ _ _ _ _ _ us hl => match us, hl with | [_, _, _, _], _ => rfl), F0.kp, (by obtain ⟨oc, od, dV, kV, doc, pm, an, cdv, ct, osl, e, lk, _⟩ := F0.ex; exact ⟨oc, od, osl, lk⟩)⟩
  have GX_turn := GXA_turn base
  have G_M_init := GA_M_init base
  have efd : fd_M_turn = fd_turn := by
    obtain ⟨oc, od, osl, lk1⟩ := lk_turn
    obtain ⟨oc2, od2, dV, kV, doc, pm, an, cdv, ct, osl2, e9, lk2, _⟩ := fn_M_turn.ex
    rw [lk1] at lk2
    cases lk2
    rfl
  subst efd
  have G2 : FnOk P w K mg base (L2N.CX P w) 4 (He.fAd K d_M_turn.at_) fd_M_turn ["self", "hand"] (sp_turn2 (ZZ K) (SX.c4 K)) := SX.FnOk.both (SX.FnOk.lift0 ((GA_M_turn base).mono (by decide))) (GX_turn.mono (by decide))
  refine F.ok sc_played (fun vs H Q E h => by obtain ⟨_, _, _, _, _, _, _, _, rfl, _⟩ := h; rfl) (fun cdv A outer s H vs Q E hr h => ⟨t_playedH (ZZ K) (SX.c4 K) E, ?_, pure_playedH (c := SX.c4 K) vs H Q E h⟩)
  exact pss_cons (ps_set (i := 4) sc_played.nd rfl (Or.inr rfl) (pe_make mk_M G_M_init (hr.mono (by decide)) rfl g_Machine bn_M_init .nil pass0 (pa_cons (pv 0) (pa_cons (pv 1) (pa_cons (pv 2) pa_nil)))))
      (pss_one (ps_ret (SX.pe_lcX (E := E) (own := [("hand", 5)]) rfl rfl (L2N.takes_of rfl rfl rfl rfl) rfl sc_played.nd (pi_list (pv 3)) (blkOk_by (own := [("hand", 5)]) (N := ["values", "programs", "rule", "weaving", "machine", "hand"]) (sc := defScope s_played) (by decide +kernel)) (fun _ _ _ _ _ => (pg_name (i := 5) sc_played.nd rfl (Or.inl rfl))) (fun _ _ _ _ _ _ _ => pts_nil) (fun _ _ _ _ _ xe pass => (pe_meth (pv 4) cl_M m_turn G2 (hr.mono (by decide)) b_turn .nil (fun pins σ H s e s' => pass σ pins H s e s') (pa_cons (pv 5) pa_nil))))))
theorem okH_whole (X : K.In h) (G : h.Ns mainGlobals mg) (c : He.SaysD fa fn K) (e2 : SX.ExK2 K) : ∃ fd, (∀ base, FnOk P w K mg base (L2N.CX P w) 10 (He.fAd K d_whole.at_) fd ["values", "programs", "rule", "weaving"] (sp_wholeH (ZZ K) (SX.c4 K))) ∧ Binds K fd ["values", "programs", "rule", "weaving"] [] ∧ PySem.W.keepIn K (.ref (He.fAd K d_whole.at_)) = true ∧ ∃ oc od osl, K.lookup (He.fAd K d_whole.at_) = some ⟨oc, od, .func fd, osl⟩ := by
  obtain ⟨fd, F0⟩ := c.def_ 34 (d := d_whole) rfl
  have F : FunD K "whole" "whole" (defArgs s_whole) (defBody s_whole) (defScope s_whole) [] [] (He.fAd K ("whole", none)) fd := F0
  obtain ⟨fd_turn, GXA_turn, b_turn, k_turn, lk_turn⟩ := okX_M_turn (P := P) (w := w) X G c e2
  obtain ⟨fd_M_init, GA_M_init, bn_M_init, kn_M_init, fn_M_init⟩ := ok_M_init (P := P) (w := w) X G c
  have g_Machine : mg "Machine" = some (.ref (He.ga K "Machine")) := He.glo_ok X G (c.fact 21 (f := .glo "Machine") rfl)
  have cl_M : Cls K (He.ga K "Machine") := He.cls_ok (c.fact 0 (f := .cls "Machine") rfl)
  have mk_M : Mk K (He.ga K "Machine") (He.ma K (He.ga K "Machine") "__init__") := He.mkr_ok (c.fact 2 (f := .mkr "Machine") rfl)
  have m_turn : Meth K (He.ga K "Machine") "turn" (He.ma K (He.ga K "Machine") "turn") := He.meth_ok (c.fact 65 (f := .meth "Machine" "turn") rfl)
  refine ⟨fd, fun base => ?_, F.bindsN (fun _ _ _ _ _ _ us hl => match us, hl with | [_, _, _, _], _ => rfl), F0.kp, (by obtain ⟨oc, od, dV, kV, doc, pm, an, cdv, ct, osl, e, lk, _⟩ := F0.ex; exact ⟨oc, od, osl, lk⟩)⟩
  have GX_turn := GXA_turn base
  have G_M_init := GA_M_init base
  refine F.ok sc_whole (fun vs H Q E h => by obtain ⟨_, _, _, _, _, _, _, _, rfl, _⟩ := h; rfl) (fun cdv A outer s H vs Q E hr h => ⟨t_wholeH (ZZ K) (SX.c4 K) E, ?_, pure_wholeH (c := SX.c4 K) vs H Q E h⟩)
  exact pss_cons (ps_set (i := 4) sc_whole.nd rfl (Or.inr rfl) (pe_make mk_M G_M_init (hr.mono (by decide)) rfl g_Machine bn_M_init .nil pass0 (pa_cons (pv 0) (pa_cons (pv 1) (pa_cons (pv 2) pa_nil)))))
      (SS.pss_stop (ps_for (passes_of rfl) rfl (pi_list (pv 3)) (pg_name (i := 5) sc_whole.nd rfl (Or.inl rfl)) (pss_one (ps_expr (pe_meth (pv 4) cl_M m_turn GX_turn (hr.mono (by decide)) b_turn .nil (fun pins σ H s e s' => (fun σ => L2N.passAt (L2N.takes_of rfl rfl rfl rfl) σ) σ pins H s e s') (pa_cons (pv 5) pa_nil))))))
theorem ok_L_told (X : K.In h) (G : h.Ns mainGlobals mg) (c : He.SaysD fa fn K) (e2 : SX.ExK2 K) : ∃ fd, (∀ base, FnOk P w K mg base CX0 13 (He.fAd K d_L_told.at_) fd ["_law_work"] (sp_L_toldZ P w mg base 12 (ZZ K) (SX.c4 K))) ∧ Binds K fd ["_law_work"] [] ∧ PySem.W.keepIn K (.ref (He.fAd K d_L_told.at_)) = true ∧ ∃ oc od osl, K.lookup (He.fAd K d_L_told.at_) = some ⟨oc, od, .func fd, osl⟩ := by
  obtain ⟨fd, F0⟩ := c.def_ 39 (d := d_L_told) rfl
  have F : FunD K "_law_told" "_law_told" (defArgs s_L_told) (defBody s_L_told) (defScope s_L_told) [] [] (He.fAd K ("_law_told", none)) fd := F0
  obtain ⟨fd_L_is, GA_L_is, b_L_is, k_L_is, _⟩ := ok_L_is (P := P) (w := w) X G c e2.e
  have g__law_is : mg "_law_is" = some (.ref (He.ga K "_law_is")) := He.glo_ok X G (c.fact 71 (f := .glo "_law_is") rfl)
  have g_PileError : mg "PileError" = some (.ref (He.ga K "PileError")) := He.glo_ok X G (c.fact 80 (f := .glo "PileError") rfl)
  have ex : ∀ i, i < 4 → PySem.W.exmOne K (.ref (SX.c4 K i)) (.ref (He.ga K "PileError")) = some true := fun i hi => by
    match i, hi with
    | 0, _ => exact He.exm_ok (c.fact 87 (f := .exm "BadPile" "PileError" true) rfl)
    | 1, _ => exact He.exm_ok (c.fact 86 (f := .exm "BadDeed" "PileError" true) rfl)
    | 2, _ => exact He.exm_ok (c.fact 89 (f := .exm "BadRule" "PileError" true) rfl)
    | 3, _ => exact He.exm_ok (c.fact 90 (f := .exm "NoHand" "PileError" true) rfl)
  have bp := bpc_of e2.e c
  have bd := bdc_of e2.e c
  refine ⟨fd, fun base => ?_, F.bindsN (fun _ _ _ _ _ _ us hl => match us, hl with | [_], _ => rfl), F0.kp, (by obtain ⟨oc, od, dV, kV, doc, pm, an, cdv, ct, osl, e, lk, _⟩ := F0.ex; exact ⟨oc, od, osl, lk⟩)⟩
  have G_L_is := GA_L_is base
  refine F.ok sc_L_told (fun vs H Q E h => by obtain ⟨_, _, rfl, _⟩ := h; rfl) (fun cdv A outer s H vs Q E hr h => ⟨t_L_toldZ P w mg base 12 (ZZ K) (SX.c4 K) (He.ga K "PileError"), ?_, pure_L_toldZ (Z := ZZ K) e2.e.ks ex vs H Q E h⟩)
  have hr12 : Room 12 _ := hr.mono (by decide)
  have hr3 : Room 3 _ := hr.mono (by decide)
  exact pss_cons (L2N.ps_try_as (i := 1) (tb := fun W => tb_L_toldZ P w mg base 12 (ZZ K) W) (ts := ts_L_toldZ (ZZ K) (SX.c4 K)) (Wout := fun _ _ _ _ => False) rfl rfl sc_L_told.nd rfl rfl ⟨rfl, by decide, Or.inl g_PileError⟩ SX.takesN0
    (fun W pn xe tk _ => pss_one (ps_expr (SX.pe_callZ hr12 rfl (Or.inl rfl) (fun σ => L2N.passAt tk σ))))
    (fun a oe cls d pn hz hf => pss_one (L2H.ps_forH PassesOwn.never (by obtain ⟨vs1, ed1⟩ := hf; exact ⟨(a, oe), ⟨rfl, vs1, ed1, hz.2.2 vs1 ed1⟩, List.mem_cons_self⟩) (SX.pi_listH (pe_lst (by exact (pa_cons pe_str (pa_cons pe_str (pa_cons pe_str (pa_cons pe_str pa_nil))))))) (pg_name (i := 2) sc_L_told.nd rfl (Or.inl rfl))
      (pss_one (ps_if (pt_val (SX.pe_callPs hz hf G_L_is hr3 rfl g__law_is k_L_is b_L_is SX.passS0 (by exact (pa_cons (pv 1) (pa_cons (pv 2) pa_nil))))) (pss_one (ps_ret (pe_lst (by exact (pa_cons (pv 2) (pa_cons (pe_ifExp (pt_cmpR op_eq (pv 2) pe_str (nomark _)) (pe_lst (by exact (pa_cons (pe_xf e2.e.bp.2 bp.at_ hz.zc hf (pv 1)) pa_nil))) (pe_ifExp (pt_cmpR op_eq (pv 2) pe_str (nomark _)) (pe_lst (by exact (pa_cons (pe_xf e2.e.bd.2 bd.hand hz.zc hf (pv 1)) (pa_cons (pe_xf e2.e.bd.2 bd.number hz.zc hf (pv 1)) pa_nil)))) (pe_lst pa_nil))) pa_nil)))))) (pss_nil))))))
    (pss_one (ps_ret pe_non))
theorem ok_L_all (X : K.In h) (G : h.Ns mainGlobals mg) (c : He.SaysD fa fn K) (e2 : SX.ExK2 K) : ∃ fd, (∀ base, FnOk P w K mg base CX0 14 (He.fAd K d_L_all.at_) fd ["_law_works_here", "_law_due"] (sp_L_all P w mg base 12 (ZZ K) (SX.c4 K))) ∧ Binds K fd ["_law_works_here", "_law_due"] [] ∧ PySem.W.keepIn K (.ref (He.fAd K d_L_all.at_)) = true ∧ ∃ oc od osl, K.lookup (He.fAd K d_L_all.at_) = some ⟨oc, od, .func fd, osl⟩ := by
  obtain ⟨fd, F0⟩ := c.def_ 40 (d := d_L_all) rfl
  have F : FunD K "_law_all" "_law_all" (defArgs s_L_all) (defBody s_L_all) (defScope s_L_all) [] [] (He.fAd K ("_law_all", none)) fd := F0
  obtain ⟨fd_L_told, GA_L_told, b_L_told, k_L_told, _⟩ := ok_L_told (P := P) (w := w) X G c e2
  obtain ⟨fd_L_like, GA_L_like, b_L_like, k_L_like, _⟩ := ok_L_like (P := P) (w := w) X G c
  have g__law_told : mg "_law_told" = some (.ref (He.ga K "_law_told")) := He.glo_ok X G (c.fact 72 (f := .glo "_law_told") rfl)
  have g_L_told := g__law_told
  have g__law_like : mg "_law_like" = some (.ref (He.ga K "_law_like")) := He.glo_ok X G (c.fact 46 (f := .glo "_law_like") rfl)
  have g_L_like := g__law_like
  refine ⟨fd, fun base => ?_, F.bindsN (fun _ _ _ _ _ _ us hl => match us, hl with | [_, _], _ => rfl), F0.kp, (by obtain ⟨oc, od, dV, kV, doc, pm, an, cdv, ct, osl, e, lk, _⟩ := F0.ex; exact ⟨oc, od, osl, lk⟩)⟩
  have G_L_told := GA_L_told base
  have G_L_like := GA_L_like base
  refine F.ok sc_L_all (fun vs H Q E h => by obtain ⟨_, _, _, _, _, rfl, _⟩ := h; rfl) (fun cdv A outer s H vs Q E hr h => ⟨t_L_all P w mg base 12 (ZZ K) (SX.c4 K) 6, PSs.nox ?_, pure_L_all (by decide) vs H Q E h⟩)
  exact pss_one (ps_ret (pe_cmpR (op_eqD hr.units) (pe_lc (own := [("_law_work", 2)]) rfl sc_L_all.nd (pi_list (pv 0)) (blkOk_by (own := [("_law_work", 2)]) (N := ["_law_works_here", "_law_due", "_law_work"]) (sc := defScope s_L_all) (by decide +kernel)) (fun _ _ _ _ _ => (pg_name (i := 2) sc_L_all.nd rfl (Or.inl rfl))) (fun _ _ _ _ _ => pts_one (pt_not (pt_val (pe_call G_L_like (hr.mono (by decide)) rfl g_L_like k_L_like b_L_like .nil pass0 (pa_cons (pe_call G_L_told (hr.mono (by decide)) rfl g_L_told k_L_told b_L_told .nil pass0 (pa_cons (pv 2) pa_nil)) (pa_cons (pv 1) pa_nil)))))) (fun _ _ _ _ _ => (pv 2))) (pe_lst pa_nil) (nomark _)))
theorem lam3_0 (X : K.In h) (G : h.Ns mainGlobals mg) (c : He.SaysD fa fn K) (e2 : SX.ExK2 K) : ∀ (base : Heap) (H0 H1 : Hp) (f lv lp lr : Addr) (k : Kd), AllBad (ZZ K) H0 lv lp lr k → LamX.ExtN H0 H1 → Kept3 H0 H1 (LW02 0) fr3 [.ref lv, .ref lp, .ref lr] f → RunsK P w K mg base 12 (SX.c4 K) k f H1 := by
  obtain ⟨fd_M_init, GXA_M_init, b_M_init, k_M_init, lk_M_init⟩ := okX_M_init (P := P) (w := w) X G c e2
  have g_Machine : mg "Machine" = some (.ref (He.ga K "Machine")) := He.glo_ok X G (c.fact 21 (f := .glo "Machine") rfl)
  have mk_M : Mk K (He.ga K "Machine") (He.ma K (He.ga K "Machine") "__init__") := He.mkr_ok (c.fact 2 (f := .mkr "Machine") rfl)
  intro base H0 H1 f lv lp lr k bad ex kp
  have GX := GXA_M_init base
  obtain ⟨⟨qual, params, body, scope, cl, c', dV⟩, C, t, e1, e3, e4, new⟩ := kp
  dsimp only at e1 e3 e4
  subst e1 e3 e4
  refine runsK_of (k := 11) (N := fr3) t (show NdefX.NScope fr3 [] fr3 (LW02 0).scope from NdefX.nscope_by (by decide +kernel)) ex new fun Gh A outer s E exG wish room => ⟨tMakeS (ZZ K).M (sp_M_initW (ZZ K) (SX.c4 K)) [] (fun _ => E) (tCons (tVar 0) (tCons (tVar 1) (tCons (tVar 2) tNil))), ?_, ?_⟩
  · exact pe_makeS mk_M GX (room.mono (by decide)) rfl g_Machine b_M_init .nil (fun σ => L2N.passAt (L2N.takes_of rfl rfl rfl rfl) σ) (pa_cons (pe_var (i := 0) rfl (Or.inr (Or.inr rfl))) (pa_cons (pe_var (i := 1) rfl (Or.inr (Or.inr rfl))) (pa_cons (pe_var (i := 2) rfl (Or.inr (Or.inr rfl))) pa_nil)))
  · exact e_machW (ea_cons (ev_var (v := .ref lv) rfl) (ea_cons (ev_var (v := .ref lp) rfl) (ea_cons (ev_var (v := .ref lr) rfl) ea_nil))) (bad.extN exG) wish
theorem lam3_1 (X : K.In h) (G : h.Ns mainGlobals mg) (c : He.SaysD fa fn K) (e2 : SX.ExK2 K) : ∀ (base : Heap) (H0 H1 : Hp) (f lv lp lr : Addr) (k : Kd), AllBad (ZZ K) H0 lv lp lr k → LamX.ExtN H0 H1 → Kept3 H0 H1 (LW02 1) fr3 [.ref lv, .ref lp, .ref lr] f → RunsK P w K mg base 12 (SX.c4 K) k f H1 := by
  obtain ⟨fd_played, GXA_played, b_played, k_played, lk_played⟩ := okX_played (P := P) (w := w) X G c e2
  have g_played : mg "played" = some (.ref (He.ga K "played")) := He.glo_ok X G (c.fact 66 (f := .glo "played") rfl)
  intro base H0 H1 f lv lp lr k bad ex kp
  have GX := GXA_played base
  obtain ⟨⟨qual, params, body, scope, cl, c', dV⟩, C, t, e1, e3, e4, new⟩ := kp
  dsimp only at e1 e3 e4
  subst e1 e3 e4
  refine runsK_of (k := 11) (N := fr3) t (show NdefX.NScope fr3 [] fr3 (LW02 1).scope from NdefX.nscope_by (by decide +kernel)) ex new fun Gh A outer s E exG wish room => ⟨tCallS (sp_takesW (ZZ K) (SX.c4 K) 1) (fun _ => E) (tCons (tVar 0) (tCons (tVar 1) (tCons (tVar 2) (tCons (tLst (tCons (tUn rNegI (tC (.int 1))) tNil)) tNil)))), ?_, ?_⟩
  · exact pe_callS GX (room.mono (by decide)) rfl g_played k_played b_played (fun σ => L2N.passAt (L2N.takes_of rfl rfl rfl rfl) σ) (pa_cons (pe_var (i := 0) rfl (Or.inr (Or.inr rfl))) (pa_cons (pe_var (i := 1) rfl (Or.inr (Or.inr rfl))) (pa_cons (pe_var (i := 2) rfl (Or.inr (Or.inr rfl))) (pa_cons (pe_lst (pa_cons (pe_un un_neg pe_int) pa_nil)) pa_nil))))
  · exact t_cons_of (ev_var (v := .ref lv) rfl _ (t_cons_of (ev_var (v := .ref lp) rfl _ (t_cons_of (ev_var (v := .ref lr) rfl _ (t_cons_of (e_lst (ea_cons (ev_neg ev_c) ea_nil) (by show 1 ≤ 1000; decide) fun p hp => ⟨lv, lp, lr, [.ref p], k, rfl, rfl, (bad.extN exG).extN (same_extN (Same.new hp)), wish.later (Same.new hp)⟩)))))))
theorem lam3_2 (X : K.In h) (G : h.Ns mainGlobals mg) (c : He.SaysD fa fn K) (e2 : SX.ExK2 K) : ∀ (base : Heap) (H0 H1 : Hp) (f lv lp lr : Addr) (k : Kd), AllBad (ZZ K) H0 lv lp lr k → LamX.ExtN H0 H1 → Kept3 H0 H1 (LW02 2) fr3 [.ref lv, .ref lp, .ref lr] f → RunsK P w K mg base 12 (SX.c4 K) k f H1 := by
  obtain ⟨fd_whole, GXA_whole, b_whole, k_whole, lk_whole⟩ := okX_whole (P := P) (w := w) X G c e2
  have g_whole : mg "whole" = some (.ref (He.ga K "whole")) := He.glo_ok X G (c.fact 67 (f := .glo "whole") rfl)
  intro base H0 H1 f lv lp lr k bad ex kp
  have GX := GXA_whole base
  obtain ⟨⟨qual, params, body, scope, cl, c', dV⟩, C, t, e1, e3, e4, new⟩ := kp
  dsimp only at e1 e3 e4
  subst e1 e3 e4
  refine runsK_of (k := 11) (N := fr3) t (show NdefX.NScope fr3 [] fr3 (LW02 2).scope from NdefX.nscope_by (by decide +kernel)) ex new fun Gh A outer s E exG wish room => ⟨tCallS (sp_takesW (ZZ K) (SX.c4 K) 1) (fun _ => E) (tCons (tVar 0) (tCons (tVar 1) (tCons (tVar 2) (tCons (tLst (tCons (tUn rNegI (tC (.int 1))) tNil)) tNil)))), ?_, ?_⟩
  · exact pe_callS GX (room.mono (by decide)) rfl g_whole k_whole b_whole (fun σ => L2N.passAt (L2N.takes_of rfl rfl rfl rfl) σ) (pa_cons (pe_var (i := 0) rfl (Or.inr (Or.inr rfl))) (pa_cons (pe_var (i := 1) rfl (Or.inr (Or.inr rfl))) (pa_cons (pe_var (i := 2) rfl (Or.inr (Or.inr rfl))) (pa_cons (pe_lst (pa_cons (pe_un un_neg pe_int) pa_nil)) pa_nil))))
  · exact t_cons_of (ev_var (v := .ref lv) rfl _ (t_cons_of (ev_var (v := .ref lp) rfl _ (t_cons_of (ev_var (v := .ref lr) rfl _ (t_cons_of (e_lst (ea_cons (ev_neg ev_c) ea_nil) (by show 1 ≤ 1000; decide) fun p hp => ⟨lv, lp, lr, [.ref p], k, rfl, rfl, (bad.extN exG).extN (same_extN (Same.new hp)), wish.later (Same.new hp)⟩)))))))
theorem lam3_3 (X : K.In h) (G : h.Ns mainGlobals mg) (c : He.SaysD fa fn K) (e2 : SX.ExK2 K) : ∀ (base : Heap) (H0 H1 : Hp) (f lv lp lr : Addr) (k : Kd), AllBad (ZZ K) H0 lv lp lr k → LamX.ExtN H0 H1 → Kept3 H0 H1 (LW02 3) fr3 [.ref lv, .ref lp, .ref lr] f → RunsK P w K mg base 12 (SX.c4 K) k f H1 := by
  obtain ⟨fd_stale, GXA_stale, b_stale, k_stale, lk_stale⟩ := okX_stale (P := P) (w := w) X G c e2
  have g_stale : mg "stale" = some (.ref (He.ga K "stale")) := He.glo_ok X G (c.fact 68 (f := .glo "stale") rfl)
  intro base H0 H1 f lv lp lr k bad ex kp
  have GX := GXA_stale base
  obtain ⟨⟨qual, params, body, scope, cl, c', dV⟩, C, t, e1, e3, e4, new⟩ := kp
  dsimp only at e1 e3 e4
  subst e1 e3 e4
  refine runsK_of (k := 11) (N := fr3) t (show NdefX.NScope fr3 [] fr3 (LW02 3).scope from NdefX.nscope_by (by decide +kernel)) ex new fun Gh A outer s E exG wish room => ⟨tCallS (sp_takesW (ZZ K) (SX.c4 K) 0) (fun _ => E) (tCons (tVar 0) (tCons (tVar 1) (tCons (tVar 2) tNil))), ?_, ?_⟩
  · exact pe_callS GX (room.mono (by decide)) rfl g_stale k_stale b_stale (fun σ => L2N.passAt (L2N.takes_of rfl rfl rfl rfl) σ) (pa_cons (pe_var (i := 0) rfl (Or.inr (Or.inr rfl))) (pa_cons (pe_var (i := 1) rfl (Or.inr (Or.inr rfl))) (pa_cons (pe_var (i := 2) rfl (Or.inr (Or.inr rfl))) pa_nil)))
  · exact ea_cons (ev_var (v := .ref lv) rfl) (ea_cons (ev_var (v := .ref lp) rfl) (ea_cons (ev_var (v := .ref lr) rfl) ea_nil)) _ ⟨lv, lp, lr, [], k, rfl, rfl, bad.extN exG, wish⟩
abbrev NL : List Str := ["_law_script", "_law_d", "_law_values_here", "_law_programs_here", "_law_many", "_law_rule_here", "_law_machine", "_law_hand", "_law_rows", "_law_number", "_law_none", "_law_odd", "_law_bad_here", "_law_works_here", "_law_out"]
def stL (i : Nat) : Stmt := (defBody s_law).getD i (.Pass ⟨0, 0, 0, 0⟩)
def LWL : Nat → LW
  | 0 => SX.lamOf LW0 (SX.arg2Of 0 (stL 14))
  | 1 => SX.lamOf LW0 (SX.arg2Of 1 (stL 14))
  | 2 => SX.lamOf LW0 (SX.arg2Of 0 (stL 17))
  | 3 => SX.lamOf LW0 (SX.arg2Of 1 (stL 17))
  | i + 4 => SX.lamOf LW0 (SX.argOf (stL (21 + i)))
def mkL (cells : List (Str × Addr)) (i : Nat) (c' : Addr) : SX.LF := ⟨(("law" : Str) ++ ".<locals>.") ++ "<lambda>", (LWL i).params, (LWL i).body, (LWL i).scope, cloFrom cells (LWL i).scope.names [], c', .none⟩
def mkL1 (cells : List (Str × Addr)) (i : Nat) (c' t : Addr) : SX.LF := ⟨(("law" : Str) ++ ".<locals>.") ++ "<lambda>", (LWL i).params, (LWL i).body, (LWL i).scope, cloFrom cells (LWL i).scope.names [], c', .ref t⟩
theorem lam1_0 (X : K.In h) (G : h.Ns mainGlobals mg) (c : He.SaysD fa fn K) (e2 : SX.ExK2 K) : ∀ (base : Heap) (cl : List (Str × Addr)) (σ : L2.St) (H : Hp) (C : SX.Cells) (f lv lp : Addr) (k : Kd), SX.CellsZ cl (defScope s_law) NL σ H C → Made1 (mkL1 cl) H 0 f → σ[12]? = some (some (.ref lv)) → σ[8]? = some (some (.ref lp)) → VPBad (ZZ K) H lv lp k → RunsK P w K mg base 12 (SX.c4 K) k f (SX.put C H) := by
  obtain ⟨fd_safe_counts, GXA_safe_counts, b_safe_counts, k_safe_counts, lk_safe_counts⟩ := okX_safe_counts (P := P) (w := w) X G c e2
  have g_safe_counts : mg "safe_counts" = some (.ref (He.ga K "safe_counts")) := He.glo_ok X G (c.fact 70 (f := .glo "safe_counts") rfl)
  intro base cl σ H C f lv lp k CZ ⟨c', t, tk, a, b, g⟩ h1 h2 bad
  have GX := GXA_safe_counts base
  have th : SX.Thunk (SX.put C H) f (mkL1 cl 0 c' t) C ["_law_one"] (["_law_bad_here", "_law_rows"] : List Str) [V.int 0] [some (V.ref lv), some (V.ref lp)] := thunk_of CZ a b rfl (show ∀ y ∈ (LWL 0).scope.names, y.2 = .free → (defScope s_law).names.lookup y.1 = some .cell by decide +kernel) rfl (fun i y e => match i, e with | 0, e => by cases e; exact ⟨(show (("_law_bad_here" : Str), NameKind.free) ∈ (LWL 0).scope.names by decide +kernel), 12, rfl, fun v ev => by cases ev; assumption⟩ | 1, e => by cases e; exact ⟨(show (("_law_rows" : Str), NameKind.free) ∈ (LWL 0).scope.names by decide +kernel), 8, rfl, fun v ev => by cases ev; assumption⟩ | i + 2, e => by simp at e) rfl ⟨[(t, PySem.W.kdv_tup [.int 0 tk])], [.int 0 tk], fun p hp => by rw [List.mem_singleton.mp hp]; exact g, .cons ⟨tk, rfl⟩ .nil, fun s doc pm ctv hT => BindsTo.of_defaults (T := t) rfl (hT _ List.mem_cons_self) rfl rfl rfl⟩
  refine runsK_of (k := 11) (N := "_law_one" :: (["_law_bad_here", "_law_rows"] : List Str)) th (show NdefX.NScope ("_law_one" :: (["_law_bad_here", "_law_rows"] : List Str)) ["_law_one"] ["_law_bad_here", "_law_rows"] (LWL 0).scope from NdefX.nscope_by (by decide +kernel)) (same_extN (same_put CZ)) CZ.new fun Gh A outer s E exG wish room => ⟨tCallS (sp_takes2W (ZZ K) (SX.c4 K)) (fun _ => E) (tCons (tVar 1) (tCons (tVar 2) tNil)), ?_, ?_⟩
  · exact pe_callS GX (room.mono (by decide)) rfl g_safe_counts k_safe_counts b_safe_counts (fun σ => L2N.passAt (L2N.takes_of rfl rfl rfl rfl) σ) (pa_cons (pe_var (i := 1) rfl (Or.inr (Or.inr rfl))) (pa_cons (pe_var (i := 2) rfl (Or.inr (Or.inr rfl))) pa_nil))
  · exact ea_cons (ev_var (v := .ref lv) rfl) (ea_cons (ev_var (v := .ref lp) rfl) ea_nil) _ ⟨lv, lp, k, rfl, bad.extN exG, wish⟩
theorem lam1_1 (X : K.In h) (G : h.Ns mainGlobals mg) (c : He.SaysD fa fn K) (e2 : SX.ExK2 K) : ∀ (base : Heap) (cl : List (Str × Addr)) (σ : L2.St) (H : Hp) (C : SX.Cells) (f lv lp : Addr) (k : Kd), SX.CellsZ cl (defScope s_law) NL σ H C → Made1 (mkL1 cl) H 1 f → σ[12]? = some (some (.ref lv)) → σ[8]? = some (some (.ref lp)) → VPBad (ZZ K) H lv lp k → RunsK P w K mg base 12 (SX.c4 K) k f (SX.put C H) := by
  obtain ⟨fd_least_marks, GXA_least_marks, b_least_marks, k_least_marks, lk_least_marks⟩ := okX_least_marks (P := P) (w := w) X G c e2
  have g_least_marks : mg "least_marks" = some (.ref (He.ga K "least_marks")) := He.glo_ok X G (c.fact 69 (f := .glo "least_marks") rfl)
  intro base cl σ H C f lv lp k CZ ⟨c', t, tk, a, b, g⟩ h1 h2 bad
  have GX := GXA_least_marks base
  have th : SX.Thunk (SX.put C H) f (mkL1 cl 1 c' t) C ["_law_two"] (["_law_bad_here", "_law_rows"] : List Str) [V.int 0] [some (V.ref lv), some (V.ref lp)] := thunk_of CZ a b rfl (show ∀ y ∈ (LWL 1).scope.names, y.2 = .free → (defScope s_law).names.lookup y.1 = some .cell by decide +kernel) rfl (fun i y e => match i, e with | 0, e => by cases e; exact ⟨(show (("_law_bad_here" : Str), NameKind.free) ∈ (LWL 1).scope.names by decide +kernel), 12, rfl, fun v ev => by cases ev; assumption⟩ | 1, e => by cases e; exact ⟨(show (("_law_rows" : Str), NameKind.free) ∈ (LWL 1).scope.names by decide +kernel), 8, rfl, fun v ev => by cases ev; assumption⟩ | i + 2, e => by simp at e) rfl ⟨[(t, PySem.W.kdv_tup [.int 0 tk])], [.int 0 tk], fun p hp => by rw [List.mem_singleton.mp hp]; exact g, .cons ⟨tk, rfl⟩ .nil, fun s doc pm ctv hT => BindsTo.of_defaults (T := t) rfl (hT _ List.mem_cons_self) rfl rfl rfl⟩
  refine runsK_of (k := 11) (N := "_law_two" :: (["_law_bad_here", "_law_rows"] : List Str)) th (show NdefX.NScope ("_law_two" :: (["_law_bad_here", "_law_rows"] : List Str)) ["_law_two"] ["_law_bad_here", "_law_rows"] (LWL 1).scope from NdefX.nscope_by (by decide +kernel)) (same_extN (same_put CZ)) CZ.new fun Gh A outer s E exG wish room => ⟨tCallS (sp_takes2W (ZZ K) (SX.c4 K)) (fun _ => E) (tCons (tVar 1) (tCons (tVar 2) tNil)), ?_, ?_⟩
  · exact pe_callS GX (room.mono (by decide)) rfl g_least_marks k_least_marks b_least_marks (fun σ => L2N.passAt (L2N.takes_of rfl rfl rfl rfl) σ) (pa_cons (pe_var (i := 1) rfl (Or.inr (Or.inr rfl))) (pa_cons (pe_var (i := 2) rfl (Or.inr (Or.inr rfl))) pa_nil))
  · exact ea_cons (ev_var (v := .ref lv) rfl) (ea_cons (ev_var (v := .ref lp) rfl) ea_nil) _ ⟨lv, lp, k, rfl, bad.extN exG, wish⟩
theorem lam1_2 (X : K.In h) (G : h.Ns mainGlobals mg) (c : He.SaysD fa fn K) (e2 : SX.ExK2 K) : ∀ (base : Heap) (cl : List (Str × Addr)) (σ : L2.St) (H : Hp) (C : SX.Cells) (f lv lp : Addr) (k : Kd), SX.CellsZ cl (defScope s_law) NL σ H C → Made1 (mkL1 cl) H 2 f → σ[2]? = some (some (.ref lv)) → σ[8]? = some (some (.ref lp)) → VPBad (ZZ K) H lv lp k → RunsK P w K mg base 12 (SX.c4 K) k f (SX.put C H) := by
  obtain ⟨fd_safe_counts, GXA_safe_counts, b_safe_counts, k_safe_counts, lk_safe_counts⟩ := okX_safe_counts (P := P) (w := w) X G c e2
  have g_safe_counts : mg "safe_counts" = some (.ref (He.ga K "safe_counts")) := He.glo_ok X G (c.fact 70 (f := .glo "safe_counts") rfl)
  intro base cl σ H C f lv lp k CZ ⟨c', t, tk, a, b, g⟩ h1 h2 bad
  have GX := GXA_safe_counts base
  have th : SX.Thunk (SX.put C H) f (mkL1 cl 2 c' t) C ["_law_one"] (["_law_values_here", "_law_rows"] : List Str) [V.int 0] [some (V.ref lv), some (V.ref lp)] := thunk_of CZ a b rfl (show ∀ y ∈ (LWL 2).scope.names, y.2 = .free → (defScope s_law).names.lookup y.1 = some .cell by decide +kernel) rfl (fun i y e => match i, e with | 0, e => by cases e; exact ⟨(show (("_law_values_here" : Str), NameKind.free) ∈ (LWL 2).scope.names by decide +kernel), 2, rfl, fun v ev => by cases ev; assumption⟩ | 1, e => by cases e; exact ⟨(show (("_law_rows" : Str), NameKind.free) ∈ (LWL 2).scope.names by decide +kernel), 8, rfl, fun v ev => by cases ev; assumption⟩ | i + 2, e => by simp at e) rfl ⟨[(t, PySem.W.kdv_tup [.int 0 tk])], [.int 0 tk], fun p hp => by rw [List.mem_singleton.mp hp]; exact g, .cons ⟨tk, rfl⟩ .nil, fun s doc pm ctv hT => BindsTo.of_defaults (T := t) rfl (hT _ List.mem_cons_self) rfl rfl rfl⟩
  refine runsK_of (k := 11) (N := "_law_one" :: (["_law_values_here", "_law_rows"] : List Str)) th (show NdefX.NScope ("_law_one" :: (["_law_values_here", "_law_rows"] : List Str)) ["_law_one"] ["_law_values_here", "_law_rows"] (LWL 2).scope from NdefX.nscope_by (by decide +kernel)) (same_extN (same_put CZ)) CZ.new fun Gh A outer s E exG wish room => ⟨tCallS (sp_takes2W (ZZ K) (SX.c4 K)) (fun _ => E) (tCons (tVar 1) (tCons (tVar 2) tNil)), ?_, ?_⟩
  · exact pe_callS GX (room.mono (by decide)) rfl g_safe_counts k_safe_counts b_safe_counts (fun σ => L2N.passAt (L2N.takes_of rfl rfl rfl rfl) σ) (pa_cons (pe_var (i := 1) rfl (Or.inr (Or.inr rfl))) (pa_cons (pe_var (i := 2) rfl (Or.inr (Or.inr rfl))) pa_nil))
  · exact ea_cons (ev_var (v := .ref lv) rfl) (ea_cons (ev_var (v := .ref lp) rfl) ea_nil) _ ⟨lv, lp, k, rfl, bad.extN exG, wish⟩
theorem lam1_3 (X : K.In h) (G : h.Ns mainGlobals mg) (c : He.SaysD fa fn K) (e2 : SX.ExK2 K) : ∀ (base : Heap) (cl : List (Str × Addr)) (σ : L2.St) (H : Hp) (C : SX.Cells) (f lv lp : Addr) (k : Kd), SX.CellsZ cl (defScope s_law) NL σ H C → Made1 (mkL1 cl) H 3 f → σ[2]? = some (some (.ref lv)) → σ[8]? = some (some (.ref lp)) → VPBad (ZZ K) H lv lp k → RunsK P w K mg base 12 (SX.c4 K) k f (SX.put C H) := by
  obtain ⟨fd_least_marks, GXA_least_marks, b_least_marks, k_least_marks, lk_least_marks⟩ := okX_least_marks (P := P) (w := w) X G c e2
  have g_least_marks : mg "least_marks" = some (.ref (He.ga K "least_marks")) := He.glo_ok X G (c.fact 69 (f := .glo "least_marks") rfl)
  intro base cl σ H C f lv lp k CZ ⟨c', t, tk, a, b, g⟩ h1 h2 bad
  have GX := GXA_least_marks base
  have th : SX.Thunk (SX.put C H) f (mkL1 cl 3 c' t) C ["_law_two"] (["_law_values_here", "_law_rows"] : List Str) [V.int 0] [some (V.ref lv), some (V.ref lp)] := thunk_of CZ a b rfl (show ∀ y ∈ (LWL 3).scope.names, y.2 = .free → (defScope s_law).names.lookup y.1 = some .cell by decide +kernel) rfl (fun i y e => match i, e with | 0, e => by cases e; exact ⟨(show (("_law_values_here" : Str), NameKind.free) ∈ (LWL 3).scope.names by decide +kernel), 2, rfl, fun v ev => by cases ev; assumption⟩ | 1, e => by cases e; exact ⟨(show (("_law_rows" : Str), NameKind.free) ∈ (LWL 3).scope.names by decide +kernel), 8, rfl, fun v ev => by cases ev; assumption⟩ | i + 2, e => by simp at e) rfl ⟨[(t, PySem.W.kdv_tup [.int 0 tk])], [.int 0 tk], fun p hp => by rw [List.mem_singleton.mp hp]; exact g, .cons ⟨tk, rfl⟩ .nil, fun s doc pm ctv hT => BindsTo.of_defaults (T := t) rfl (hT _ List.mem_cons_self) rfl rfl rfl⟩
  refine runsK_of (k := 11) (N := "_law_two" :: (["_law_values_here", "_law_rows"] : List Str)) th (show NdefX.NScope ("_law_two" :: (["_law_values_here", "_law_rows"] : List Str)) ["_law_two"] ["_law_values_here", "_law_rows"] (LWL 3).scope from NdefX.nscope_by (by decide +kernel)) (same_extN (same_put CZ)) CZ.new fun Gh A outer s E exG wish room => ⟨tCallS (sp_takes2W (ZZ K) (SX.c4 K)) (fun _ => E) (tCons (tVar 1) (tCons (tVar 2) tNil)), ?_, ?_⟩
  · exact pe_callS GX (room.mono (by decide)) rfl g_least_marks k_least_marks b_least_marks (fun σ => L2N.passAt (L2N.takes_of rfl rfl rfl rfl) σ) (pa_cons (pe_var (i := 1) rfl (Or.inr (Or.inr rfl))) (pa_cons (pe_var (i := 2) rfl (Or.inr (Or.inr rfl))) pa_nil))
  · exact ea_cons (ev_var (v := .ref lv) rfl) (ea_cons (ev_var (v := .ref lp) rfl) ea_nil) _ ⟨lv, lp, k, rfl, bad.extN exG, wish⟩
theorem lam0_0 (X : K.In h) (G : h.Ns mainGlobals mg) (c : He.SaysD fa fn K) (e2 : SX.ExK2 K) : ∀ (base : Heap) (cl : List (Str × Addr)) (σ : L2.St) (H : Hp) (C : SX.Cells) (f d lv lp lr : Addr) (A : MA) (values : List Int) (ps : List (List Deed)) (r : Rule) (out : Int), SX.CellsZ cl (defScope s_law) NL σ H C → MadeAt (fun i => mkL cl (4 + i)) H 0 f → D2 (ZZ K) [] H d lv lp lr A values ps r → σ[2]? = some (some (.ref lv)) → σ[3]? = some (some (.ref lp)) → σ[5]? = some (some (.ref lr)) → σ[6]? = some (some (.ref A.p)) → σ[14]? = some (some (.int out)) → NoH ps.length out → RunsK P w K mg base 12 (SX.c4 K) .hand f (SX.put C H) := by
  obtain ⟨fd_turn, GXA_turn, b_turn, k_turn, lk_turn⟩ := okX_M_turn (P := P) (w := w) X G c e2
  have cl_M : Cls K (He.ga K "Machine") := He.cls_ok (c.fact 0 (f := .cls "Machine") rfl)
  have m_turn : Meth K (He.ga K "Machine") "turn" (He.ma K (He.ga K "Machine") "turn") := He.meth_ok (c.fact 65 (f := .meth "Machine" "turn") rfl)
  intro base cl σ H C f d lv lp lr A values ps r out CZ ⟨c', a, b⟩ D h1 h2 h3 h4 h5 no
  have GX := GXA_turn base
  have th : SX.Thunk (SX.put C H) f (mkL cl 4 c') C [] (["_law_machine", "_law_out"] : List Str) [] [some (V.ref A.p), some (V.int out)] := thunk_of CZ a b rfl (show ∀ y ∈ (LWL 4).scope.names, y.2 = .free → (defScope s_law).names.lookup y.1 = some .cell by decide +kernel) rfl (fun i y e => match i, e with | 0, e => by cases e; exact ⟨(show (("_law_machine" : Str), NameKind.free) ∈ (LWL 4).scope.names by decide +kernel), 6, rfl, fun v ev => by cases ev; assumption⟩ | 1, e => by cases e; exact ⟨(show (("_law_out" : Str), NameKind.free) ∈ (LWL 4).scope.names by decide +kernel), 14, rfl, fun v ev => by cases ev; assumption⟩ | i + 2, e => by simp at e) rfl ⟨[], [], (fun p hp => absurd hp (by simp)), Paired.nil, fun s doc pm ctv _ => BindsTo.of_eq rfl⟩
  refine runsK_of (k := 11) (N := ["_law_machine", "_law_out"]) th (show NdefX.NScope (["_law_machine", "_law_out"] : List Str) [] ["_law_machine", "_law_out"] (LWL 4).scope from NdefX.nscope_by (by decide +kernel)) (same_extN (same_put CZ)) CZ.new fun Gh A2 outer s E exG wish room => ⟨tMeth (ZZ K).M "turn" (sp_handX (ZZ K) (SX.c4 K)) [] E (tVar 0) (tCons (tVar 1) tNil), ?_, ?_⟩
  · exact pe_meth (pe_var (i := 0) rfl (Or.inr (Or.inr rfl))) cl_M m_turn GX (room.mono (by decide)) b_turn .nil (fun pins σ H s e s' => (fun σ => L2N.passAt (L2N.takes_of rfl rfl rfl rfl) σ) σ pins H s e s') (pa_cons (pe_var (i := 1) rfl (Or.inr (Or.inr rfl))) pa_nil)
  · have DG := D.extN exG fun p hp => absurd hp (by simp)
    have hl : (M.begin_ values ps r).hands.length = ps.length := by show (ps.map _).length = _; rw [List.length_map]
    exact s_methX (by simp) (ev_var (v := .ref A.p) rfl) (ea_cons (ev_var (v := .int out) rfl) ea_nil) DG.M (by rw [hl]; exact no) wish
theorem lam0_1 (X : K.In h) (G : h.Ns mainGlobals mg) (c : He.SaysD fa fn K) (e2 : SX.ExK2 K) : ∀ (base : Heap) (cl : List (Str × Addr)) (σ : L2.St) (H : Hp) (C : SX.Cells) (f d lv lp lr : Addr) (A : MA) (values : List Int) (ps : List (List Deed)) (r : Rule) (out : Int), SX.CellsZ cl (defScope s_law) NL σ H C → MadeAt (fun i => mkL cl (4 + i)) H 1 f → D2 (ZZ K) [] H d lv lp lr A values ps r → σ[2]? = some (some (.ref lv)) → σ[3]? = some (some (.ref lp)) → σ[5]? = some (some (.ref lr)) → σ[6]? = some (some (.ref A.p)) → σ[14]? = some (some (.int out)) → NoH ps.length out → RunsK P w K mg base 12 (SX.c4 K) .hand f (SX.put C H) := by
  obtain ⟨fd_answers, GXA_answers, b_answers, k_answers, lk_answers⟩ := okX_M_answers (P := P) (w := w) X G c e2
  have cl_M : Cls K (He.ga K "Machine") := He.cls_ok (c.fact 0 (f := .cls "Machine") rfl)
  have m_answers : Meth K (He.ga K "Machine") "answers" (He.ma K (He.ga K "Machine") "answers") := He.meth_ok (c.fact 45 (f := .meth "Machine" "answers") rfl)
  intro base cl σ H C f d lv lp lr A values ps r out CZ ⟨c', a, b⟩ D h1 h2 h3 h4 h5 no
  have GX := GXA_answers base
  have th : SX.Thunk (SX.put C H) f (mkL cl 5 c') C [] (["_law_machine", "_law_out"] : List Str) [] [some (V.ref A.p), some (V.int out)] := thunk_of CZ a b rfl (show ∀ y ∈ (LWL 5).scope.names, y.2 = .free → (defScope s_law).names.lookup y.1 = some .cell by decide +kernel) rfl (fun i y e => match i, e with | 0, e => by cases e; exact ⟨(show (("_law_machine" : Str), NameKind.free) ∈ (LWL 5).scope.names by decide +kernel), 6, rfl, fun v ev => by cases ev; assumption⟩ | 1, e => by cases e; exact ⟨(show (("_law_out" : Str), NameKind.free) ∈ (LWL 5).scope.names by decide +kernel), 14, rfl, fun v ev => by cases ev; assumption⟩ | i + 2, e => by simp at e) rfl ⟨[], [], (fun p hp => absurd hp (by simp)), Paired.nil, fun s doc pm ctv _ => BindsTo.of_eq rfl⟩
  refine runsK_of (k := 11) (N := ["_law_machine", "_law_out"]) th (show NdefX.NScope (["_law_machine", "_law_out"] : List Str) [] ["_law_machine", "_law_out"] (LWL 5).scope from NdefX.nscope_by (by decide +kernel)) (same_extN (same_put CZ)) CZ.new fun Gh A2 outer s E exG wish room => ⟨tMeth (ZZ K).M "answers" (sp_handX (ZZ K) (SX.c4 K)) [] E (tVar 0) (tCons (tVar 1) tNil), ?_, ?_⟩
  · exact pe_meth (pe_var (i := 0) rfl (Or.inr (Or.inr rfl))) cl_M m_answers GX (room.mono (by decide)) b_answers .nil (fun pins σ H s e s' => (fun σ => L2N.passAt (L2N.takes_of rfl rfl rfl rfl) σ) σ pins H s e s') (pa_cons (pe_var (i := 1) rfl (Or.inr (Or.inr rfl))) pa_nil)
  · have DG := D.extN exG fun p hp => absurd hp (by simp)
    have hl : (M.begin_ values ps r).hands.length = ps.length := by show (ps.map _).length = _; rw [List.length_map]
    exact s_methX (by simp) (ev_var (v := .ref A.p) rfl) (ea_cons (ev_var (v := .int out) rfl) ea_nil) DG.M (by rw [hl]; exact no) wish
theorem lam0_2 (X : K.In h) (G : h.Ns mainGlobals mg) (c : He.SaysD fa fn K) (e2 : SX.ExK2 K) : ∀ (base : Heap) (cl : List (Str × Addr)) (σ : L2.St) (H : Hp) (C : SX.Cells) (f d lv lp lr : Addr) (A : MA) (values : List Int) (ps : List (List Deed)) (r : Rule) (out : Int), SX.CellsZ cl (defScope s_law) NL σ H C → MadeAt (fun i => mkL cl (4 + i)) H 2 f → D2 (ZZ K) [] H d lv lp lr A values ps r → σ[2]? = some (some (.ref lv)) → σ[3]? = some (some (.ref lp)) → σ[5]? = some (some (.ref lr)) → σ[6]? = some (some (.ref A.p)) → σ[14]? = some (some (.int out)) → NoH ps.length out → RunsK P w K mg base 12 (SX.c4 K) .hand f (SX.put C H) := by
  obtain ⟨fd_marked, GXA_marked, b_marked, k_marked, lk_marked⟩ := okX_M_marked (P := P) (w := w) X G c e2
  have cl_M : Cls K (He.ga K "Machine") := He.cls_ok (c.fact 0 (f := .cls "Machine") rfl)
  have m_marked : Meth K (He.ga K "Machine") "marked" (He.ma K (He.ga K "Machine") "marked") := He.meth_ok (c.fact 52 (f := .meth "Machine" "marked") rfl)
  intro base cl σ H C f d lv lp lr A values ps r out CZ ⟨c', a, b⟩ D h1 h2 h3 h4 h5 no
  have GX := GXA_marked base
  have th : SX.Thunk (SX.put C H) f (mkL cl 6 c') C [] (["_law_machine", "_law_out"] : List Str) [] [some (V.ref A.p), some (V.int out)] := thunk_of CZ a b rfl (show ∀ y ∈ (LWL 6).scope.names, y.2 = .free → (defScope s_law).names.lookup y.1 = some .cell by decide +kernel) rfl (fun i y e => match i, e with | 0, e => by cases e; exact ⟨(show (("_law_machine" : Str), NameKind.free) ∈ (LWL 6).scope.names by decide +kernel), 6, rfl, fun v ev => by cases ev; assumption⟩ | 1, e => by cases e; exact ⟨(show (("_law_out" : Str), NameKind.free) ∈ (LWL 6).scope.names by decide +kernel), 14, rfl, fun v ev => by cases ev; assumption⟩ | i + 2, e => by simp at e) rfl ⟨[], [], (fun p hp => absurd hp (by simp)), Paired.nil, fun s doc pm ctv _ => BindsTo.of_eq rfl⟩
  refine runsK_of (k := 11) (N := ["_law_machine", "_law_out"]) th (show NdefX.NScope (["_law_machine", "_law_out"] : List Str) [] ["_law_machine", "_law_out"] (LWL 6).scope from NdefX.nscope_by (by decide +kernel)) (same_extN (same_put CZ)) CZ.new fun Gh A2 outer s E exG wish room => ⟨tMeth (ZZ K).M "marked" (sp_handX (ZZ K) (SX.c4 K)) [] E (tVar 0) (tCons (tVar 1) tNil), ?_, ?_⟩
  · exact pe_meth (pe_var (i := 0) rfl (Or.inr (Or.inr rfl))) cl_M m_marked GX (room.mono (by decide)) b_marked .nil (fun pins σ H s e s' => (fun σ => L2N.passAt (L2N.takes_of rfl rfl rfl rfl) σ) σ pins H s e s') (pa_cons (pe_var (i := 1) rfl (Or.inr (Or.inr rfl))) pa_nil)
  · have DG := D.extN exG fun p hp => absurd hp (by simp)
    have hl : (M.begin_ values ps r).hands.length = ps.length := by show (ps.map _).length = _; rw [List.length_map]
    exact s_methX (by simp) (ev_var (v := .ref A.p) rfl) (ea_cons (ev_var (v := .int out) rfl) ea_nil) DG.M (by rw [hl]; exact no) wish
theorem lam0_3 (X : K.In h) (G : h.Ns mainGlobals mg) (c : He.SaysD fa fn K) (e2 : SX.ExK2 K) : ∀ (base : Heap) (cl : List (Str × Addr)) (σ : L2.St) (H : Hp) (C : SX.Cells) (f d lv lp lr : Addr) (A : MA) (values : List Int) (ps : List (List Deed)) (r : Rule) (out : Int), SX.CellsZ cl (defScope s_law) NL σ H C → MadeAt (fun i => mkL cl (4 + i)) H 3 f → D2 (ZZ K) [] H d lv lp lr A values ps r → σ[2]? = some (some (.ref lv)) → σ[3]? = some (some (.ref lp)) → σ[5]? = some (some (.ref lr)) → σ[6]? = some (some (.ref A.p)) → σ[14]? = some (some (.int out)) → NoH ps.length out → RunsK P w K mg base 12 (SX.c4 K) .hand f (SX.put C H) := by
  obtain ⟨fd_played, GXA_played, b_played, k_played, lk_played⟩ := okH_played (P := P) (w := w) X G c e2
  have g_played : mg "played" = some (.ref (He.ga K "played")) := He.glo_ok X G (c.fact 66 (f := .glo "played") rfl)
  intro base cl σ H C f d lv lp lr A values ps r out CZ ⟨c', a, b⟩ D h1 h2 h3 h4 h5 no
  have GX := GXA_played base
  have th : SX.Thunk (SX.put C H) f (mkL cl 7 c') C [] (["_law_values_here", "_law_programs_here", "_law_rule_here", "_law_out"] : List Str) [] [some (V.ref lv), some (V.ref lp), some (V.ref lr), some (V.int out)] := thunk_of CZ a b rfl (show ∀ y ∈ (LWL 7).scope.names, y.2 = .free → (defScope s_law).names.lookup y.1 = some .cell by decide +kernel) rfl (fun i y e => match i, e with | 0, e => by cases e; exact ⟨(show (("_law_values_here" : Str), NameKind.free) ∈ (LWL 7).scope.names by decide +kernel), 2, rfl, fun v ev => by cases ev; assumption⟩ | 1, e => by cases e; exact ⟨(show (("_law_programs_here" : Str), NameKind.free) ∈ (LWL 7).scope.names by decide +kernel), 3, rfl, fun v ev => by cases ev; assumption⟩ | 2, e => by cases e; exact ⟨(show (("_law_rule_here" : Str), NameKind.free) ∈ (LWL 7).scope.names by decide +kernel), 5, rfl, fun v ev => by cases ev; assumption⟩ | 3, e => by cases e; exact ⟨(show (("_law_out" : Str), NameKind.free) ∈ (LWL 7).scope.names by decide +kernel), 14, rfl, fun v ev => by cases ev; assumption⟩ | i + 4, e => by simp at e) rfl ⟨[], [], (fun p hp => absurd hp (by simp)), Paired.nil, fun s doc pm ctv _ => BindsTo.of_eq rfl⟩
  refine runsK_of (k := 11) (N := ["_law_values_here", "_law_programs_here", "_law_rule_here", "_law_out"]) th (show NdefX.NScope (["_law_values_here", "_law_programs_here", "_law_rule_here", "_law_out"] : List Str) [] ["_law_values_here", "_law_programs_here", "_law_rule_here", "_law_out"] (LWL 7).scope from NdefX.nscope_by (by decide +kernel)) (same_extN (same_put CZ)) CZ.new fun Gh A2 outer s E exG wish room => ⟨tCallS (sp_playedH (ZZ K) (SX.c4 K)) (fun _ => E) (tCons (tVar 0) (tCons (tVar 1) (tCons (tVar 2) (tCons (tLst (tCons (tC (.int 0)) (tCons (tVar 3) tNil))) tNil)))), ?_, ?_⟩
  · exact pe_callS GX (room.mono (by decide)) rfl g_played k_played b_played (fun σ => L2N.passAt (L2N.takes_of rfl rfl rfl rfl) σ) (pa_cons (pe_var (i := 0) rfl (Or.inr (Or.inr rfl))) (pa_cons (pe_var (i := 1) rfl (Or.inr (Or.inr rfl))) (pa_cons (pe_var (i := 2) rfl (Or.inr (Or.inr rfl))) (pa_cons (pe_lst (pa_cons pe_int (pa_cons (pe_var (i := 3) rfl (Or.inr (Or.inr rfl))) pa_nil))) pa_nil))))
  · have DG := D.extN exG fun p hp => absurd hp (by simp)
    refine t_cons_of (ev_var (v := .ref lv) rfl _ (t_cons_of (ev_var (v := .ref lp) rfl _ (t_cons_of (ev_var (v := .ref lr) rfl _ (t_cons_of (e_lst (ea_cons ev_c (ea_cons (ev_var (v := .int out) rfl) ea_nil)) (by show 2 ≤ 1000; decide) fun p hp => ?_)))))))
    have DN := DG.same (Same.new (o := .lst [.int 0, .int out]) hp)
    exact ⟨lv, lp, lr, p, values, ps, r, out, rfl, SqL.of DN.v, DN.p.progs, DN.ru, DN.ok, SqL.of upd_same, no, wish.later (Same.new hp)⟩
theorem lam0_4 (X : K.In h) (G : h.Ns mainGlobals mg) (c : He.SaysD fa fn K) (e2 : SX.ExK2 K) : ∀ (base : Heap) (cl : List (Str × Addr)) (σ : L2.St) (H : Hp) (C : SX.Cells) (f d lv lp lr : Addr) (A : MA) (values : List Int) (ps : List (List Deed)) (r : Rule) (out : Int), SX.CellsZ cl (defScope s_law) NL σ H C → MadeAt (fun i => mkL cl (4 + i)) H 4 f → D2 (ZZ K) [] H d lv lp lr A values ps r → σ[2]? = some (some (.ref lv)) → σ[3]? = some (some (.ref lp)) → σ[5]? = some (some (.ref lr)) → σ[6]? = some (some (.ref A.p)) → σ[14]? = some (some (.int out)) → NoH ps.length out → RunsK P w K mg base 12 (SX.c4 K) .hand f (SX.put C H) := by
  obtain ⟨fd_whole, GXA_whole, b_whole, k_whole, lk_whole⟩ := okH_whole (P := P) (w := w) X G c e2
  have g_whole : mg "whole" = some (.ref (He.ga K "whole")) := He.glo_ok X G (c.fact 67 (f := .glo "whole") rfl)
  intro base cl σ H C f d lv lp lr A values ps r out CZ ⟨c', a, b⟩ D h1 h2 h3 h4 h5 no
  have GX := GXA_whole base
  have th : SX.Thunk (SX.put C H) f (mkL cl 8 c') C [] (["_law_values_here", "_law_programs_here", "_law_rule_here", "_law_out"] : List Str) [] [some (V.ref lv), some (V.ref lp), some (V.ref lr), some (V.int out)] := thunk_of CZ a b rfl (show ∀ y ∈ (LWL 8).scope.names, y.2 = .free → (defScope s_law).names.lookup y.1 = some .cell by decide +kernel) rfl (fun i y e => match i, e with | 0, e => by cases e; exact ⟨(show (("_law_values_here" : Str), NameKind.free) ∈ (LWL 8).scope.names by decide +kernel), 2, rfl, fun v ev => by cases ev; assumption⟩ | 1, e => by cases e; exact ⟨(show (("_law_programs_here" : Str), NameKind.free) ∈ (LWL 8).scope.names by decide +kernel), 3, rfl, fun v ev => by cases ev; assumption⟩ | 2, e => by cases e; exact ⟨(show (("_law_rule_here" : Str), NameKind.free) ∈ (LWL 8).scope.names by decide +kernel), 5, rfl, fun v ev => by cases ev; assumption⟩ | 3, e => by cases e; exact ⟨(show (("_law_out" : Str), NameKind.free) ∈ (LWL 8).scope.names by decide +kernel), 14, rfl, fun v ev => by cases ev; assumption⟩ | i + 4, e => by simp at e) rfl ⟨[], [], (fun p hp => absurd hp (by simp)), Paired.nil, fun s doc pm ctv _ => BindsTo.of_eq rfl⟩
  refine runsK_of (k := 11) (N := ["_law_values_here", "_law_programs_here", "_law_rule_here", "_law_out"]) th (show NdefX.NScope (["_law_values_here", "_law_programs_here", "_law_rule_here", "_law_out"] : List Str) [] ["_law_values_here", "_law_programs_here", "_law_rule_here", "_law_out"] (LWL 8).scope from NdefX.nscope_by (by decide +kernel)) (same_extN (same_put CZ)) CZ.new fun Gh A2 outer s E exG wish room => ⟨tCallS (sp_wholeH (ZZ K) (SX.c4 K)) (fun _ => E) (tCons (tVar 0) (tCons (tVar 1) (tCons (tVar 2) (tCons (tLst (tCons (tVar 3) tNil)) tNil)))), ?_, ?_⟩
  · exact pe_callS GX (room.mono (by decide)) rfl g_whole k_whole b_whole (fun σ => L2N.passAt (L2N.takes_of rfl rfl rfl rfl) σ) (pa_cons (pe_var (i := 0) rfl (Or.inr (Or.inr rfl))) (pa_cons (pe_var (i := 1) rfl (Or.inr (Or.inr rfl))) (pa_cons (pe_var (i := 2) rfl (Or.inr (Or.inr rfl))) (pa_cons (pe_lst (pa_cons (pe_var (i := 3) rfl (Or.inr (Or.inr rfl))) pa_nil)) pa_nil))))
  · have DG := D.extN exG fun p hp => absurd hp (by simp)
    refine t_cons_of (ev_var (v := .ref lv) rfl _ (t_cons_of (ev_var (v := .ref lp) rfl _ (t_cons_of (ev_var (v := .ref lr) rfl _ (t_cons_of (e_lst (ea_cons (ev_var (v := .int out) rfl) ea_nil) (by show 1 ≤ 1000; decide) fun p hp => ?_)))))))
    have DN := DG.same (Same.new (o := .lst [.int out]) hp)
    exact ⟨lv, lp, lr, p, values, ps, r, out, rfl, SqL.of DN.v, DN.p.progs, DN.ru, DN.ok, SqL.of upd_same, no, wish.later (Same.new hp)⟩
theorem ok_law (X : K.In h) (G : h.Ns mainGlobals mg) (c : He.SaysD fa fn K) (e2 : SX.ExK2 K) (cod : CodK K) : ∃ fd, (∀ base, LamX.TabB base mg (SX.cdA K "law") (SX.cdP K "law") → LamX.TabB base mg (SX.cdA K "_law_works") (SX.cdP K "_law_works") → FnOk P w K mg base CX0 15 (He.fAd K d_law.at_) fd ["_law_script"] (sp_law2 (ZZ K) (SX.T02 K))) ∧ Binds K fd ["_law_script"] [] ∧ PySem.W.keepIn K (.ref (He.fAd K d_law.at_)) = true ∧ FunD K d_law.name d_law.qual d_law.params d_law.body d_law.scope (d_law.dvs K) (d_law.kws K) (He.fAd K d_law.at_) fd := by
  obtain ⟨fd, F0⟩ := c.def_ 41 (d := d_law) rfl
  have F : FunD K "law" "law" (defArgs s_law) (defBody s_law) (defScope s_law) [] [] (He.fAd K ("law", none)) fd := F0
  obtain ⟨fd_L_dice, GA_L_dice, b_L_dice, k_L_dice, _⟩ := ok_L_dice (P := P) (w := w) X G c
  have g_L_dice : mg "_law_dice" = some (.ref (He.ga K "_law_dice")) := He.glo_ok X G (c.fact 23 (f := .glo "_law_dice") rfl)
  obtain ⟨fd_L_values, GA_L_values, b_L_values, k_L_values, _⟩ := ok_L_values (P := P) (w := w) X G c
  have g_L_values : mg "_law_values" = some (.ref (He.ga K "_law_values")) := He.glo_ok X G (c.fact 27 (f := .glo "_law_values") rfl)
  obtain ⟨fd_L_programs, GA_L_programs, b_L_programs, k_L_programs, _⟩ := ok_L_programs (P := P) (w := w) X G c
  have g_L_programs : mg "_law_programs" = some (.ref (He.ga K "_law_programs")) := He.glo_ok X G (c.fact 30 (f := .glo "_law_programs") rfl)
  obtain ⟨fd_L_rule, GA_L_rule, b_L_rule, k_L_rule, _⟩ := ok_L_rule (P := P) (w := w) X G c
  have g_L_rule : mg "_law_rule" = some (.ref (He.ga K "_law_rule")) := He.glo_ok X G (c.fact 31 (f := .glo "_law_rule") rfl)
  obtain ⟨fd_M_init, GA_M_init, b_M_init, k_M_init, _⟩ := ok_M_init (P := P) (w := w) X G c
  obtain ⟨fd_M_answers, GA_M_answers, b_M_answers, k_M_answers, _⟩ := ok_M_answers (P := P) (w := w) X G c
  have m_M_answers : Meth K (He.ga K "Machine") "answers" (He.ma K (He.ga K "Machine") "answers") := He.meth_ok (c.fact 45 (f := .meth "Machine" "answers") rfl)
  obtain ⟨fd_L_like, GA_L_like, b_L_like, k_L_like, _⟩ := ok_L_like (P := P) (w := w) X G c
  have g_L_like : mg "_law_like" = some (.ref (He.ga K "_law_like")) := He.glo_ok X G (c.fact 46 (f := .glo "_law_like") rfl)
  obtain ⟨fd_M_order, GA_M_order, b_M_order, k_M_order, _⟩ := ok_M_order (P := P) (w := w) X G c
  have m_M_order : Meth K (He.ga K "Machine") "order" (He.ma K (He.ga K "Machine") "order") := He.meth_ok (c.fact 51 (f := .meth "Machine" "order") rfl)
  obtain ⟨fd_M_marked, GA_M_marked, b_M_marked, k_M_marked, _⟩ := ok_M_marked (P := P) (w := w) X G c
  have m_M_marked : Meth K (He.ga K "Machine") "marked" (He.ma K (He.ga K "Machine") "marked") := He.meth_ok (c.fact 52 (f := .meth "Machine" "marked") rfl)
  obtain ⟨fd_L_bad, GA_L_bad, b_L_bad, k_L_bad, _⟩ := ok_L_bad (P := P) (w := w) X G c
  have g_L_bad : mg "_law_bad" = some (.ref (He.ga K "_law_bad")) := He.glo_ok X G (c.fact 53 (f := .glo "_law_bad") rfl)
  obtain ⟨fd_L_next, GA_L_next, b_L_next, k_L_next, _⟩ := ok_L_next (P := P) (w := w) X G c
  have g_L_next : mg "_law_next" = some (.ref (He.ga K "_law_next")) := He.glo_ok X G (c.fact 26 (f := .glo "_law_next") rfl)
  obtain ⟨fd_L_works, GA_L_works, b_L_works, k_L_works, _⟩ := ok_L_works (P := P) (w := w) X G c cod
  have g_L_works : mg "_law_works" = some (.ref (He.ga K "_law_works")) := He.glo_ok X G (c.fact 54 (f := .glo "_law_works") rfl)
  obtain ⟨fd_L_all, GA_L_all, b_L_all, k_L_all, _⟩ := ok_L_all (P := P) (w := w) X G c e2
  have g_L_all : mg "_law_all" = some (.ref (He.ga K "_law_all")) := He.glo_ok X G (c.fact 73 (f := .glo "_law_all") rfl)
  have f_len : mg "len" = none := He.free_ok X G (c.fact 24 (f := .free "len") rfl)
  have f_range : mg "range" = none := He.free_ok X G (c.fact 28 (f := .free "range") rfl)
  have f_tuple : mg "tuple" = none := He.free_ok X G (c.fact 32 (f := .free "tuple") rfl)
  have f_min : mg "min" = none := He.free_ok X G (c.fact 75 (f := .free "min") rfl)
  have cl_M : Cls K (He.ga K "Machine") := He.cls_ok (c.fact 0 (f := .cls "Machine") rfl)
  have mk_M : Mk K (He.ga K "Machine") (He.ma K (He.ga K "Machine") "__init__") := He.mkr_ok (c.fact 2 (f := .mkr "Machine") rfl)
  have g_Machine : mg "Machine" = some (.ref (He.ga K "Machine")) := He.glo_ok X G (c.fact 21 (f := .glo "Machine") rfl)
  refine ⟨fd, fun base tbL tbW => ?_, F.bindsN (fun _ _ _ _ _ _ us hl => match us, hl with | [_], _ => rfl), F0.kp, F0⟩
  have G_L_dice := GA_L_dice base
  have G_L_values := GA_L_values base
  have G_L_programs := GA_L_programs base
  have G_L_rule := GA_L_rule base
  have G_M_init := GA_M_init base
  have G_M_answers := GA_M_answers base
  have G_L_like := GA_L_like base
  have G_M_order := GA_M_order base
  have G_M_marked := GA_M_marked base
  have G_L_bad := GA_L_bad base
  have G_L_next := GA_L_next base
  have G_L_works := GA_L_works base tbW
  have G_L_all := GA_L_all base
  have lam : ∀ cl : List (Str × Addr), LamOk P w mg base (ZZ K) (SX.c4 K) (SX.T02 K) LW02 cl (defScope s_law) NL (mkL cl) (mkL1 cl) := fun cl => ⟨fun j hj => match j, hj with | 0, _ => lam3_0 X G c e2 base | 1, _ => lam3_1 X G c e2 base | 2, _ => lam3_2 X G c e2 base | 3, _ => lam3_3 X G c e2 base, fun i hi => match i, hi with | 0, _ => lam1_0 X G c e2 base _ | 1, _ => lam1_1 X G c e2 base _ | 2, _ => lam1_2 X G c e2 base _ | 3, _ => lam1_3 X G c e2 base _, fun i hi => match i, hi with | 0, _ => lam0_0 X G c e2 base _ | 1, _ => lam0_1 X G c e2 base _ | 2, _ => lam0_2 X G c e2 base _ | 3, _ => lam0_3 X G c e2 base _ | 4, _ => lam0_4 X G c e2 base _⟩
  refine SX.okT F sc_law (fun vs H Q E h => by obtain ⟨_, _, rfl, _⟩ := h; rfl) cod.cl (fun A outer s H vs Q E hr h => ⟨t_law2 P w mg base (ZZ K) (SX.c4 K) (SX.T02 K) LW02 (cellsFrom (s.heap.objs.size + 1) (defScope s_law).names []) (defScope s_law) NL (mkL (cellsFrom (s.heap.objs.size + 1) (defScope s_law).names [])) (mkL1 (cellsFrom (s.heap.objs.size + 1) (defScope s_law).names [])), PSs.nox ?_, pure_law2 (zok c) (lam (cellsFrom (s.heap.objs.size + 1) (defScope s_law).names [])) vs H Q E h⟩)
  exact pss_cons (ps_set (i := 1) sc_law.nd rfl (Or.inl rfl) (pe_call G_L_dice (hr.mono (by decide)) rfl g_L_dice k_L_dice b_L_dice .nil pass0 (pa_cons (pv 0) pa_nil)))
      (pss_cons (ps_set (i := 2) sc_law.nd rfl (Or.inr rfl) (pe_call G_L_values (hr.mono (by decide)) rfl g_L_values k_L_values b_L_values .nil pass0 (pa_cons (pv 1) (pa_cons pe_int pa_nil))))
      (pss_cons (ps_set (i := 3) sc_law.nd rfl (Or.inr rfl) (pe_call G_L_programs (hr.mono (by decide)) rfl g_L_programs k_L_programs b_L_programs .nil pass0 (pa_cons (pv 1) (pa_cons pe_int (pa_cons pe_int pa_nil)))))
      (pss_cons (ps_set (i := 4) sc_law.nd rfl (Or.inl rfl) (pe_callB call_len_seq rfl f_len PySem.boot_len (pa_cons (pv 3) pa_nil)))
      (pss_cons (ps_set (i := 5) sc_law.nd rfl (Or.inr rfl) (pe_call G_L_rule (hr.mono (by decide)) rfl g_L_rule k_L_rule b_L_rule .nil pass0 (pa_cons (pv 1) (pa_cons (pv 4) pa_nil))))
      (pss_cons (ps_set (i := 6) sc_law.nd rfl (Or.inr rfl) (pe_make mk_M G_M_init (hr.mono (by decide)) rfl g_Machine b_M_init .nil pass0 (pa_cons (pv 2) (pa_cons (pv 3) (pa_cons (pv 5) pa_nil)))))
      (pss_cons (ps_if (pt_not (pt_val (pe_call G_L_like (hr.mono (by decide)) rfl g_L_like k_L_like b_L_like .nil pass0 (pa_cons (pe_lc (own := [("_law_hand", 7)]) rfl sc_law.nd (pi_range1 rfl f_range (pa_cons (pv 4) pa_nil)) (blkOk_by (own := [("_law_hand", 7)]) (N := ["_law_script", "_law_d", "_law_values_here", "_law_programs_here", "_law_many", "_law_rule_here", "_law_machine", "_law_hand", "_law_rows", "_law_number", "_law_none", "_law_odd", "_law_bad_here", "_law_works_here", "_law_out"]) (sc := defScope s_law) (by decide +kernel)) (fun _ _ _ _ _ => (pg_name (i := 7) sc_law.nd rfl (Or.inl rfl))) (fun _ _ _ _ _ => pts_nil) (fun _ _ _ _ _ => (pe_meth (pv 6) cl_M m_M_answers G_M_answers (hr.mono (by decide)) b_M_answers .nil pass0 (pa_cons (pv 7) pa_nil)))) (pa_cons (pe_lc (own := [("_law_hand", 7)]) rfl sc_law.nd (pi_range1 rfl f_range (pa_cons (pv 4) pa_nil)) (blkOk_by (own := [("_law_hand", 7)]) (N := ["_law_script", "_law_d", "_law_values_here", "_law_programs_here", "_law_many", "_law_rule_here", "_law_machine", "_law_hand", "_law_rows", "_law_number", "_law_none", "_law_odd", "_law_bad_here", "_law_works_here", "_law_out"]) (sc := defScope s_law) (by decide +kernel)) (fun _ _ _ _ _ => (pg_name (i := 7) sc_law.nd rfl (Or.inl rfl))) (fun _ _ _ _ _ => pts_nil) (fun _ _ _ _ _ => (pe_lst pa_nil))) pa_nil))))) (pss_one (ps_ret pe_bl)) (pss_nil))
      (pss_cons (ps_if (PW.pt (pw_or (pt_not (pt_val (pe_call G_L_like (hr.mono (by decide)) rfl g_L_like k_L_like b_L_like .nil pass0 (pa_cons (pe_lc (own := [("_law_hand", 7)]) rfl sc_law.nd (pi_range1 rfl f_range (pa_cons (pv 4) pa_nil)) (blkOk_by (own := [("_law_hand", 7)]) (N := ["_law_script", "_law_d", "_law_values_here", "_law_programs_here", "_law_many", "_law_rule_here", "_law_machine", "_law_hand", "_law_rows", "_law_number", "_law_none", "_law_odd", "_law_bad_here", "_law_works_here", "_law_out"]) (sc := defScope s_law) (by decide +kernel)) (fun _ _ _ _ _ => (pg_name (i := 7) sc_law.nd rfl (Or.inl rfl))) (fun _ _ _ _ _ => pts_nil) (fun _ _ _ _ _ => (pe_meth (pv 6) cl_M m_M_marked G_M_marked (hr.mono (by decide)) b_M_marked .nil pass0 (pa_cons (pv 7) pa_nil)))) (pa_cons (pe_op op_rep (pe_lst (pa_cons pe_int pa_nil)) (pv 4)) pa_nil))))) (pw_or1 (pt_cmpR (op_neD hr.units) (pe_meth0 (pv 6) cl_M m_M_order G_M_order (hr.mono (by decide)) b_M_order .nil pass0) (pe_lst pa_nil) (nomark _))))) (pss_one (ps_ret pe_bl)) (pss_nil))
      (pss_cons (ps_asg (pe_call G_L_bad (hr.mono (by decide)) rfl g_L_bad k_L_bad b_L_bad .nil pass0 (pa_cons (pv 1) (pa_cons (pv 3) pa_nil))) (pg_tup rfl (pgs_cons (pg_name (i := 8) sc_law.nd rfl (Or.inr rfl)) (pgs_cons (pg_name (i := 7) sc_law.nd rfl (Or.inl rfl)) (pgs_cons (pg_name (i := 9) sc_law.nd rfl (Or.inl rfl)) pgs_nil)))))
      (pss_cons (ps_set (i := 10) sc_law.nd rfl (Or.inl rfl) (pe_lst (pa_cons (pe_tup (pa_cons pe_str (pa_cons pe_int pa_nil))) (pa_cons (pe_tup (pa_cons pe_str (pa_cons pe_int pa_nil))) (pa_cons (pe_tup (pa_cons pe_str (pa_cons (pe_tup (pa_cons (pv 4) pa_nil)) pa_nil))) (pa_cons (pe_tup (pa_cons pe_str (pa_cons (pe_tup (pa_cons (pe_un un_neg pe_int) pa_nil)) pa_nil))) (pa_cons (pe_tup (pa_cons pe_str (pa_cons (pe_tup (pa_cons pe_int (pa_cons pe_int pa_nil))) pa_nil))) (pa_cons (pe_tup (pa_cons pe_str (pa_cons pe_int pa_nil))) pa_nil))))))))
      (pss_cons (ps_set (i := 10) sc_law.nd rfl (Or.inl rfl) (pe_op op_cat (pv 10) (pe_lst (pa_cons (pe_tup (pa_cons pe_str (pa_cons (pe_tup (pa_cons (pe_op op_sub (pv 4) pe_int) (pa_cons pe_int pa_nil))) pa_nil))) (pa_cons (pe_tup (pa_cons pe_str pa_nil)) (pa_cons (pe_tup (pa_cons pe_str (pa_cons pe_int pa_nil))) (pa_cons (pe_tup (pa_cons pe_str pa_nil)) (pa_cons (pe_tup (pa_cons pe_str pa_nil)) pa_nil))))))))
      (pss_cons (ps_expr (pe_bm PySem.F.plainAttrs_list PySem.F.slot_list_append PySem.F.type_list_append mt_append (pv 10) (pa_cons (pe_tup (pa_cons pe_str (pa_cons (pe_op op_catA (pe_tupRg rfl rfl f_tuple (prg_1 rfl f_range (pv 4))) (pe_tup (pa_cons (pe_op op_sub (pv 4) pe_int) pa_nil))) pa_nil))) pa_nil)))
      (pss_cons (ps_set (i := 11) sc_law.nd rfl (Or.inl rfl) (pe_ix ix_list (pv 10) (pe_call G_L_next (hr.mono (by decide)) rfl g_L_next k_L_next b_L_next .nil pass0 (pa_cons (pv 1) (pa_cons (pe_callB call_len_seq rfl f_len PySem.boot_len (pa_cons (pv 10) pa_nil)) pa_nil))) (fun _ _ => rfl)))
      (pss_cons (ps_set (i := 12) sc_law.nd rfl (Or.inr rfl) (pe_op op_cat (pe_op op_cat (pe_slice sl_list (pv 2) po_none (po_some pe_int)) (pe_lst (pa_cons pe_int pa_nil))) (pe_slice sl_list (pv 2) (po_some pe_int) (po_some pe_int))))
      (pss_cons (ps_set (i := 13) sc_law.nd rfl (Or.inl rfl) (pe_op op_cat (pe_call G_L_works (hr.mono (by decide)) rfl g_L_works k_L_works b_L_works .nil pass0 (pa_cons (pv 12) (pa_cons (pv 8) (pa_cons (pv 11) pa_nil)))) (pe_lst (pa_cons (SX.pe_lam1 tbL rfl List.mem_cons_self (uniqL cod) rfl rfl (NdefX.ndef_free (sc := defScope s_law) (fr := []) (by decide +kernel))) (pa_cons (SX.pe_lam1 tbL rfl List.mem_cons_self (uniqL cod) rfl rfl (NdefX.ndef_free (sc := defScope s_law) (fr := []) (by decide +kernel))) pa_nil)))))
      (pss_cons (ps_if (pt_not (pt_val (SX.pe_callF G_L_all (hr.mono (by decide)) (fun _ => rfl) rfl g_L_all k_L_all b_L_all (fun _ _ _ _ z => z) (pa_cons (pv 13) (pa_cons (pe_lst (pa_cons pe_str (pa_cons (pe_lst (pa_cons (pe_callB (call_min2 rfl) rfl f_min (by decide +kernel) (pa_cons pe_int (pa_cons (pe_callB call_len_seq rfl f_len PySem.boot_len (pa_cons (pv 2) pa_nil)) pa_nil))) pa_nil)) pa_nil))) pa_nil))))) (pss_one (ps_ret pe_bl)) (pss_nil))
      (pss_cons (ps_set (i := 13) sc_law.nd rfl (Or.inl rfl) (pe_call G_L_works (hr.mono (by decide)) rfl g_L_works k_L_works b_L_works .nil pass0 (pa_cons (pv 2) (pa_cons (pv 8) (pa_cons (pv 11) pa_nil)))))
      (pss_cons (ps_set (i := 13) sc_law.nd rfl (Or.inl rfl) (pe_op op_cat (pv 13) (pe_lst (pa_cons (SX.pe_lam1 tbL rfl List.mem_cons_self (uniqL cod) rfl rfl (NdefX.ndef_free (sc := defScope s_law) (fr := []) (by decide +kernel))) (pa_cons (SX.pe_lam1 tbL rfl List.mem_cons_self (uniqL cod) rfl rfl (NdefX.ndef_free (sc := defScope s_law) (fr := []) (by decide +kernel))) pa_nil)))))
      (pss_cons (ps_if (pt_not (pt_val (SX.pe_callF G_L_all (hr.mono (by decide)) (fun _ => rfl) rfl g_L_all k_L_all b_L_all (fun _ _ _ _ z => z) (pa_cons (pv 13) (pa_cons (pe_lst (pa_cons pe_str (pa_cons (pe_lst (pa_cons (pv 7) (pa_cons (pv 9) pa_nil))) pa_nil))) pa_nil))))) (pss_one (ps_ret pe_bl)) (pss_nil))
      (pss_cons (ps_if (pt_not (pt_val (SX.pe_callF G_L_all (hr.mono (by decide)) (fun _ => rfl) rfl g_L_all k_L_all b_L_all (fun _ _ _ _ z => z) (pa_cons (pe_call G_L_works (hr.mono (by decide)) rfl g_L_works k_L_works b_L_works .nil pass0 (pa_cons (pv 2) (pa_cons (pv 3) (pa_cons (pv 11) pa_nil)))) (pa_cons (pe_lst (pa_cons pe_str (pa_cons (pe_lst pa_nil) pa_nil))) pa_nil))))) (pss_one (ps_ret pe_bl)) (pss_nil))
      (pss_cons (ps_set (i := 14) sc_law.nd rfl (Or.inr rfl) (pe_ix ix_list (pe_lst (pa_cons (pe_un un_neg pe_int) (pa_cons (pv 4) (pa_cons (pe_op op_pow pe_int pe_int) pa_nil)))) (pe_call G_L_next (hr.mono (by decide)) rfl g_L_next k_L_next b_L_next .nil pass0 (pa_cons (pv 1) (pa_cons pe_int pa_nil))) (fun _ _ => rfl)))
      (pss_cons (ps_set (i := 13) sc_law.nd rfl (Or.inl rfl) (pe_lst (pa_cons (SX.pe_lam0 tbL rfl List.mem_cons_self (uniqL cod) rfl (NdefX.ndef_free (sc := defScope s_law) (fr := []) (by decide +kernel))) pa_nil)))
      (pss_cons (ps_expr (pe_bm PySem.F.plainAttrs_list PySem.F.slot_list_append PySem.F.type_list_append mt_append (pv 13) (pa_cons (SX.pe_lam0 tbL rfl List.mem_cons_self (uniqL cod) rfl (NdefX.ndef_free (sc := defScope s_law) (fr := []) (by decide +kernel))) pa_nil)))
      (pss_cons (ps_expr (pe_bm PySem.F.plainAttrs_list PySem.F.slot_list_append PySem.F.type_list_append mt_append (pv 13) (pa_cons (SX.pe_lam0 tbL rfl List.mem_cons_self (uniqL cod) rfl (NdefX.ndef_free (sc := defScope s_law) (fr := []) (by decide +kernel))) pa_nil)))
      (pss_cons (ps_expr (pe_bm PySem.F.plainAttrs_list PySem.F.slot_list_append PySem.F.type_list_append mt_append (pv 13) (pa_cons (SX.pe_lam0 tbL rfl List.mem_cons_self (uniqL cod) rfl (NdefX.ndef_free (sc := defScope s_law) (fr := []) (by decide +kernel))) pa_nil)))
      (pss_cons (ps_expr (pe_bm PySem.F.plainAttrs_list PySem.F.slot_list_append PySem.F.type_list_append mt_append (pv 13) (pa_cons (SX.pe_lam0 tbL rfl List.mem_cons_self (uniqL cod) rfl (NdefX.ndef_free (sc := defScope s_law) (fr := []) (by decide +kernel))) pa_nil)))
      (pss_one (ps_ret (SX.pe_callF G_L_all (hr.mono (by decide)) (fun _ => rfl) rfl g_L_all k_L_all b_L_all (fun _ _ _ _ z => z) (pa_cons (pv 13) (pa_cons (pe_lst (pa_cons pe_str (pa_cons (pe_lst pa_nil) pa_nil))) pa_nil))))))))))))))))))))))))))))))
end
def loose : List PySem.Str := (["_wall", "__name__", "PileError", "BadPile", "BadDeed", "BadRule", "NoHand", "MOST_VALUES", "MOST_VALUE", "MOST_HANDS", "MOST_DEEDS", "MOST_COUNTS", "need_values", "is_deed", "need_deeds", "need_programs", "need_rule", "Hand", "Machine", "stale", "safe_counts", "parts_of", "least_marks", "played", "whole", "_law_dice", "_law_next", "_law_like", "_law_values", "_law_deed"] : List PySem.Str) ++ (["_law_programs", "_law_rule", "_law_weaving", "_law_is", "_law_told", "_law_bad", "_law_works", "_law_all"] : List PySem.Str)
abbrev R : PySem.W.OpenRow := PySem.W.OpenLaw.row PySem.Challenge.rw_stalestack_k02_none_such
def tabE : Option Obj → Bool
  | some ⟨.none, none, .fields vs, sl⟩ => vs.isEmpty && sl.isEmpty
  | _ => false
theorem tabE_ok {o : Option Obj} (h : tabE o = true) : o = some { cls := .none, data := .fields #[] } := by
  unfold tabE at h
  split at h
  · rename_i vs sl
    simp only [Bool.and_eq_true, Array.isEmpty_iff] at h
    rw [h.1, h.2]
  · cases h
def lamB (K : PySem.W.Frag) (x : PySem.Str) : Bool := PySem.W.codeHdIn K (SX.cdA K x) (SX.cdP K x) && ((K.lookup (SX.cdP K x)).isNone && (match K.lookup (He.ga K x) with | some ⟨_, _, .func g, _⟩ => decide (g.code = .ref (SX.cdA K x)) | _ => false))
theorem lamB_ok {K : PySem.W.Frag} {x : PySem.Str} (h : lamB K x = true) : PySem.W.codeHdIn K (SX.cdA K x) (SX.cdP K x) = true ∧ K.lookup (SX.cdP K x) = none ∧ ∀ oc od osl (g : FuncData), K.lookup (He.ga K x) = some ⟨oc, od, .func g, osl⟩ → g.code = .ref (SX.cdA K x) := by
  unfold lamB at h
  simp only [Bool.and_eq_true] at h
  obtain ⟨a, b, c⟩ := h
  refine ⟨a, Option.isNone_iff_eq_none.mp b, fun oc od osl g e => ?_⟩
  rw [e] at c
  exact of_decide_eq_true c
def allB (K : PySem.W.Frag) : Bool := SX.exC K && (lamB K "law" && (lamB K "_law_works" && decide (SX.cdP K "law" ≠ SX.cdP K "_law_works")))
def asT (g : Addr → Option Obj) (n : Nat) : List Addr := (He.asD g n).filter (fun a => a != SX.cdP (He.frG g (He.asD g n)) "law" && a != SX.cdP (He.frG g (He.asD g n)) "_law_works") ++ [cStatics]
def obsT (n : Nat) (g : Addr → Option Obj) : He.AlD × Bool × Bool := (He.obsD fa fn (He.frG g (asT g n)), allB (He.frG g (asT g n)), (tabE (g (SX.cdP (He.frG g (asT g n)) "law")) && tabE (g (SX.cdP (He.frG g (asT g n)) "_law_works"))))
def hookT (n : Nat) : PySem.W.Hook where
  α := He.AlD × Bool × Bool
  obs := fun s => obsT n s.heap.get?
  val := fun _ => (He.valD fn, true, true)
  says := fun _ h => ∃ K : PySem.W.Frag, K.In h ∧ He.SaysD fa fn K ∧ allB K = true ∧ (tabE (h.get? (SX.cdP K "law")) && tabE (h.get? (SX.cdP K "_law_works"))) = true
  of := fun _ _ e => ⟨_, He.frG_in, congrArg (fun z : He.AlD × Bool × Bool => z.1) e, congrArg (fun z : He.AlD × Bool × Bool => z.2.1) e, congrArg (fun z : He.AlD × Bool × Bool => z.2.2) e⟩
  keeps := fun _ _ _ ⟨K, hK, c, l, t⟩ k => ⟨K, PySem.W.Frag.In.keeps hK k, c, l, by
    rw [Bool.and_eq_true] at t
    rw [k _ _ (tabE_ok t.1), k _ _ (tabE_ok t.2)]
    rfl⟩
theorem obsT_eq {n : Nat} {g : Addr → Option Obj} {s : Shared} (h : ∀ a, g a = s.heap.get? a) : obsT n g = (hookT n).obs s := by
  have e : g = s.heap.get? := funext h
  rw [e] <;> rfl
abbrev hk : PySem.W.Hook := hookT 5
def ob (s : PySem.W.SharedT) : He.AlD × Bool × Bool := obsT 5 (HandSHeadRun.getT s)
theorem ob_eq (s : PySem.W.SharedT) : ob s = hk.obs s.abs := obsT_eq (HandSHeadRun.getT_eq s)
theorem run (w : World) : HandSHeadRun.RunEq R (PySem.W.view R.prog [43]) hk ob 12000 loose w := by
  intro os
  kernel_rfl
end SR
open PySem PySem.W PySem.Calls PyProof.Rows
theorem PySem.Challenge.cw_stalestack_k02_none_such_holds : PySem.Challenge.rw_stalestack_k02_none_such.Holds := by
  w_on; o_law
  refine HandSHeadRun.head_any (r := OpenLaw.row PySem.Challenge.rw_stalestack_k02_none_such) (q := view (OpenLaw.row PySem.Challenge.rw_stalestack_k02_none_such).prog [43]) (H := SR.hk) (ob := SR.ob) (M := 12000) (loose := SR.loose) (d := HandSHeadRun.topDef (OpenLaw.row PySem.Challenge.rw_stalestack_k02_none_such).prog 43) (kwd := []) SR.ob_eq
    (by kernel_rfl) (fun s => by kernel_rfl) SR.run (by kernel_rfl) (by kernel_rfl) (by kernel_rfl) (by rfl) (by first | assumption | decide +kernel) (by decide +kernel) ⟨rfl, rfl, rfl, rfl, rfl, by decide +kernel⟩ ?hw ?hc
  case hw => w_witness2
  case hc =>
    refine LamX.walk_ofTsE (l := PySem.Challenge.rw_stalestack_k02_none_such) (n := 63) (k := 15) (x := "_law_script") (CX := fun _ => L2.CX0) rfl (by decide) (by kernel_rfl) ⟨rfl, by decide, by decide⟩ ?F (fun _ _ _ _ _ z => z)
    intro w mg fa h Y G hmg0
    obtain ⟨K, KX, c, lb, te⟩ := Y
    rw [Bool.and_eq_true] at te
    unfold SR.allB at lb
    simp only [Bool.and_eq_true, decide_eq_true_eq] at lb
    obtain ⟨ex, lb1, lb2, ne⟩ := lb
    obtain ⟨l1, l2, code1⟩ := SR.lamB_ok lb1
    obtain ⟨m1, m2, code2⟩ := SR.lamB_ok lb2
    have hmg : mg ("law" : PySem.Str) = some (.ref fa) := by
      have e : (HandSHeadRun.topDef (OpenLaw.row PySem.Challenge.rw_stalestack_k02_none_such).prog 43).name = ("law" : PySem.Str) := by kernel_rfl
      rw [← e]
      exact hmg0
    have e := hmg.symm.trans (He.glo_ok KX G (c.fact 74 (f := .glo "law") rfl))
    cases e
    obtain ⟨fd, F2, _, _, F0⟩ := SR.ok_law (P := (PySem.Challenge.rw_stalestack_k02_none_such).prog) (w := w) KX G c (SX.exC_ok ex) ⟨code2, code1, ne⟩
    have b2 := L2.FunD.bindsA (ps := ["_law_script"]) F0 fun _ _ _ _ _ _ us hl => match us, hl with | [_], _ => rfl
    refine ⟨K, KX, fd, [(SX.cdA K "law", SX.cdP K "law"), (SX.cdA K "_law_works", SX.cdP K "_law_works")], SX.sp_lawW (SR.ZZ K) (SX.T02 K), fun p hp => ?_, fun p hp => ?_, fun p hp => ?_, fun s v => b2 s [v] rfl, fun H a ns hl _ ht hS => ⟨a, ns, rfl, hS, hl, fun p hp => ?_, fun _ => rfl⟩, fun base _ _ tb => SX.fn_frz rfl (F2 base (tb (SX.cdA K "law", SX.cdP K "law") List.mem_cons_self) (tb (SX.cdA K "_law_works", SX.cdP K "_law_works") (List.mem_cons_of_mem _ List.mem_cons_self)))⟩
    · rcases List.mem_cons.mp hp with rfl | hp
      · exact SR.tabE_ok te.1
      · rw [List.mem_singleton.mp hp]
        exact SR.tabE_ok te.2
    · rcases List.mem_cons.mp hp with rfl | hp
      · exact l2
      · rw [List.mem_singleton.mp hp]
        exact m2
    · rcases List.mem_cons.mp hp with rfl | hp
      · exact PySem.W.codeHd_of_K KX l1
      · rw [List.mem_singleton.mp hp]
        exact PySem.W.codeHd_of_K KX m1
    · rcases List.mem_cons.mp hp with rfl | hp
      · exact LamX.TabS.nil (ht (SX.cdA K "law", SX.cdP K "law") List.mem_cons_self)
      · rw [List.mem_singleton.mp hp]
        exact LamX.TabS.nil (ht (SX.cdA K "_law_works", SX.cdP K "_law_works") (List.mem_cons_of_mem _ List.mem_cons_self))


