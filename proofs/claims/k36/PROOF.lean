import PyProof.Rows.All
import Wide.All
import OpenK.AllK
import Wide.FinOn
import KE.KStateDown
import HandS.ForMost
import HandS.More
import HandS.WordsExc
import HandS.Conv
import HandS.SetFor
import HandS.Style
import HandS.TupAny
import HandS.Deep
import HandS.Defaults
import HandS.IsInst
import HandS.SortRule
import HandS.Head0
import HandS.Head1
import HandS.Head2
import HandS.HeadEnd
import HandS.HeadHook1
import HandS.HeadHook2
import PySem.Challenge.RW_stalestack_k36_whole_deeper_piles
/-! The machine of hands as a plain function: what a turn tells and leaves. -/
namespace SS

inductive Deed where
  | pop
  | push (v : Int)
  deriving DecidableEq, Repr

inductive Rule where
  | counts (m : Nat)
  | marks (hs : List Nat)
  | keeps
  deriving DecidableEq, Repr

inductive Ans where
  | non
  | done
  | val (v : Int)
  deriving DecidableEq, Repr

inductive Tell where
  | rests
  | takes (c : Nat)
  | reads (t : Nat)
  | ends (a : Ans)
  | links (t : Nat)
  | marks (c : Nat)
  | looks (b : Bool)
  | follows (n : Nat)
  | exchanges (n : Nat)
  | misses
  deriving DecidableEq, Repr

structure Hd where
  at_ : Nat := 0
  cell : Nat := 0
  seen : Option (Nat × Nat) := none
  follow : Option Nat := none
  mark : Nat := 0
  looked : Bool := false
  said : List Ans := []
  deriving DecidableEq, Repr

structure M where
  rule : Rule
  progs : List (List Deed)
  worths : List Int
  links : List Nat
  top : Nat
  count : Nat
  freed : List Nat
  hands : List Hd
  ends : List (Nat × Nat)
  strayed : Bool
  deriving DecidableEq, Repr

def M.begin_ (values : List Int) (progs : List (List Deed)) (rule : Rule) : M where
  rule := rule
  progs := progs
  worths := values
  links := List.range values.length
  top := values.length
  count := 0
  freed := []
  hands := progs.map fun _ => {}
  ends := []
  strayed := false

def M.hd (m : M) (h : Nat) : Hd := m.hands.getD h {}
def M.prog (m : M) (h : Nat) : List Deed := m.progs.getD h []
def M.setH (m : M) (h : Nat) (x : Hd) : M := { m with hands := m.hands.set h x }
def M.rests (m : M) (h : Nat) : Bool := (m.hd h).at_ == (m.prog h).length
def M.marked (m : M) : List Nat := (m.hands.map (·.mark)).filter (· != 0)

def Hd.forgot (x : Hd) : Hd := { x with seen := none, follow := none, looked := false }
def Hd.ended (x : Hd) (a : Ans) : Hd :=
  { at_ := x.at_ + 1, cell := 0, seen := none, follow := none, mark := 0, looked := false, said := x.said ++ [a] }

/-- the free cell that a push takes, if there is one -/
def pick (rule : Rule) (marked freed : List Nat) : Option Nat :=
  if rule = .keeps then none else freed.find? fun c => !marked.contains c
/-- a cell for a value -/
def M.taken (m : M) (v : Int) : Nat × M :=
  match pick m.rule m.marked m.freed with
  | some c => (c, { m with freed := m.freed.erase c, worths := m.worths.set (c - 1) v })
  | none => (m.worths.length + 1, { m with worths := m.worths ++ [v], links := m.links ++ [0] })

def M.turned (m : M) : Nat :=
  match m.rule with
  | .counts k => (m.count + 1) % k
  | _ => m.count
/-- the top is exchanged -/
def M.exchd (m : M) (h c : Nat) : M :=
  { m with top := c, count := m.turned, ends := m.ends ++ [(h, (m.hd h).at_)] }
def M.fits (m : M) (h : Nat) : Bool := decide ((m.hd h).seen = some (m.top, m.count))
def M.exch (m : M) (h c : Nat) : Bool × M :=
  if m.fits h then (true, m.exchd h c) else (false, m.setH h (m.hd h).forgot)

def M.endedH (m : M) (h : Nat) (a : Ans) : M := m.setH h ((m.hd h).ended a)

def M.read (m : M) (h : Nat) (d : Deed) : Tell × M :=
  if m.top = 0 ∧ d = .pop then
    (.ends .non, { m with ends := m.ends ++ [(h, (m.hd h).at_)] }.endedH h .non)
  else (.reads m.top, m.setH h { m.hd h with seen := some (m.top, m.count) })

def M.push (m : M) (h : Nat) (t : Nat) : Tell × M :=
  match (m.hd h).follow with
  | none => (.links t, { m with links := m.links.set ((m.hd h).cell - 1) t }.setH h { m.hd h with follow := some t })
  | some _ =>
    if m.fits h then (.ends .done, (m.exchd h (m.hd h).cell).endedH h .done)
    else (.misses, m.setH h (m.hd h).forgot)

def Rule.named (r : Rule) (h : Nat) : Bool :=
  match r with
  | .marks hs => hs.contains h
  | _ => false

def M.guard (m : M) (h c : Nat) : Tell × M :=
  if (m.hd h).mark ≠ c then (.marks c, m.setH h { m.hd h with mark := c })
  else if m.top ≠ c then (.looks false, m.setH h (m.hd h).forgot)
  else (.looks true, m.setH h { m.hd h with looked := true })

def M.pop (m : M) (h : Nat) (t : Nat) : Tell × M :=
  if (m.hd h).cell ≠ 0 then
    (.ends (.val (m.worths.getD ((m.hd h).cell - 1) 0)),
      { m with freed := m.freed ++ [(m.hd h).cell] }.endedH h (.val (m.worths.getD ((m.hd h).cell - 1) 0)))
  else if m.rule.named h ∧ (m.hd h).looked = false then m.guard h t
  else match (m.hd h).follow with
    | none => (.follows (m.links.getD (t - 1) 0), m.setH h { m.hd h with follow := some (m.links.getD (t - 1) 0) })
    | some f =>
      if m.fits h then
        (.exchanges f,
          { m.exchd h f with strayed := m.strayed || m.links.getD (t - 1) 0 != f }.setH h { m.hd h with cell := t })
      else (.misses, m.setH h (m.hd h).forgot)

def M.turn (m : M) (h : Nat) : Tell × M :=
  match (m.prog h)[(m.hd h).at_]? with
  | none => (.rests, m)
  | some (.push v) =>
    if (m.hd h).cell = 0 then
      let r := m.taken v
      (.takes r.1, r.2.setH h { m.hd h with cell := r.1 })
    else match (m.hd h).seen with
      | none => m.read h (.push v)
      | some s => m.push h s.1
  | some .pop =>
    match (m.hd h).seen with
    | none => m.read h .pop
    | some s => m.pop h s.1

def M.step (m : M) (h : Nat) : M := (m.turn h).2
def M.run (m : M) (w : List Nat) : M := w.foldl M.step m

def M.pileFrom (links : List Nat) : Nat → List Nat → Nat → List Nat
  | 0, found, _ => found
  | n + 1, found, cell => if cell = 0 ∨ cell ∈ found then found else M.pileFrom links n (found ++ [cell]) (links.getD (cell - 1) 0)
def M.pile (m : M) : List Nat := M.pileFrom m.links (m.links.length + 1) [] m.top
def M.pileValues (m : M) : List Int := m.pile.map fun c => m.worths.getD (c - 1) 0
def M.isDone (m : M) : Bool := (List.range m.hands.length).all m.rests

end SS

set_option linter.all false
/-! What holds of the machine behind every step. -/
namespace SS
def okVal (v : Int) : Prop := 0 ≤ v ∧ v ≤ 99
def okDeed : Deed → Prop
  | .pop => True
  | .push v => okVal v
def rising : List Nat → Prop
  | [] => True
  | [_] => True
  | a :: b :: l => a < b ∧ rising (b :: l)
def okRule (many : Nat) : Rule → Prop
  | .counts m => 1 ≤ m ∧ m ≤ 15
  | .marks hs => (∀ h ∈ hs, h < many) ∧ rising hs ∧ hs.length ≤ 1000
  | .keeps => True
structure okIn (values : List Int) (progs : List (List Deed)) (rule : Rule) : Prop where
  vlen : values.length ≤ 6
  vals : ∀ v ∈ values, okVal v
  plen : 1 ≤ progs.length ∧ progs.length ≤ 3
  dlen : ∀ p ∈ progs, p.length ≤ 4
  deeds : ∀ p ∈ progs, ∀ d ∈ p, okDeed d
  rule : okRule progs.length rule
def okCount (m : M) : Prop := ∀ k, m.rule = .counts k → 0 < k
/-- what every step rests on -/
structure Wf (m : M) : Prop where
  ps : m.progs.length = m.hands.length
  hn : m.hands.length ≤ 1000
  wl : m.worths.length < 1000
  ll : m.links.length = m.worths.length
  fl : m.freed.length < 1000
  el : m.ends.length < 1000
  count : okCount m
  sl : ∀ h, (m.hd h).said.length < 1000
  at_ : ∀ h, (m.hd h).at_ ≤ (m.prog h).length
  fr : ∀ c ∈ m.freed, 1 ≤ c ∧ c ≤ m.worths.length
  cell : ∀ h, (m.hd h).cell ≤ m.worths.length
  pushC : ∀ h v s, (m.prog h)[(m.hd h).at_]? = some (.push v) → (m.hd h).seen = some s → 1 ≤ (m.hd h).cell
  popC : ∀ h s, (m.prog h)[(m.hd h).at_]? = some .pop → (m.hd h).seen = some s → 1 ≤ s.1 ∧ s.1 ≤ m.worths.length
/-- the cells that may be met lie there -/
structure PileOk (m : M) : Prop where
  wl : m.worths.length ≤ 1000
  ll : m.links.length = m.worths.length
  top : m.top ≤ m.links.length
  links : ∀ c ∈ m.links, c ≤ m.links.length

/-! ### one hand -/
structure HOk (n : Nat) (p : List Deed) (x : Hd) : Prop where
  said : x.said.length = x.at_
  at_ : x.at_ ≤ p.length
  fin : p[x.at_]? = none → x.cell = 0 ∧ x.seen = none
  cell : x.cell ≤ n
  seen : ∀ s, x.seen = some s → s.1 ≤ n
  follow : ∀ f, x.follow = some f → f ≤ n
  pushC : ∀ v s, p[x.at_]? = some (.push v) → x.seen = some s → 1 ≤ x.cell
  popC : ∀ s, p[x.at_]? = some .pop → x.seen = some s → 1 ≤ s.1
  popS : p[x.at_]? = some .pop → x.cell ≠ 0 → x.seen ≠ none
theorem HOk.mono {n n' : Nat} {p : List Deed} {x : Hd} (h : HOk n p x) (l : n ≤ n') : HOk n' p x :=
  ⟨h.said, h.at_, h.fin, Nat.le_trans h.cell l, fun s e => Nat.le_trans (h.seen s e) l, fun s e => Nat.le_trans (h.follow s e) l, h.pushC, h.popC, h.popS⟩
/-- cells taken, deeds decided, deeds ended by a hand -/
def used (x : Hd) : Nat := x.at_ + if x.cell = 0 then 0 else 1
def decd (p : List Deed) (x : Hd) : Nat := x.at_ + if p[x.at_]? = some .pop ∧ x.cell ≠ 0 then 1 else 0
theorem HOk.used_le {n : Nat} {p : List Deed} {x : Hd} (h : HOk n p x) : used x ≤ p.length := by
  unfold used
  have := h.at_
  split
  · omega
  · rename_i hc
    have : p[x.at_]? ≠ none := fun e => hc (h.fin e).1
    have : x.at_ < p.length := by
      have z : ¬ p.length ≤ x.at_ := fun q => this (List.getElem?_eq_none q)
      omega
    omega
theorem HOk.dec_le {n : Nat} {p : List Deed} {x : Hd} (h : HOk n p x) : decd p x ≤ p.length := by
  unfold decd
  have := h.at_
  split
  · rename_i hc
    have := (List.getElem?_eq_some_iff.mp hc.1).1
    omega
  · omega

/-! ### sums over the hands -/
def sumTo (f : Nat → Nat) : Nat → Nat
  | 0 => 0
  | n + 1 => sumTo f n + f n
theorem sumTo_le {f g : Nat → Nat} : ∀ {n : Nat}, (∀ i, i < n → f i ≤ g i) → sumTo f n ≤ sumTo g n
  | 0, _ => Nat.le_refl _
  | n + 1, h => Nat.add_le_add (sumTo_le fun i hi => h i (by omega)) (h n (by omega))
theorem sumTo_congr {f g : Nat → Nat} {n : Nat} (h : ∀ i, i < n → f i = g i) : sumTo f n = sumTo g n :=
  Nat.le_antisymm (sumTo_le fun i hi => Nat.le_of_eq (h i hi)) (sumTo_le fun i hi => Nat.le_of_eq (h i hi).symm)
theorem sumTo_set {f g : Nat → Nat} {k : Nat} : ∀ {n : Nat}, k < n → (∀ i, i < n → i ≠ k → f i = g i) → sumTo f n + g k = sumTo g n + f k
  | 0, h, _ => by omega
  | n + 1, hk, h => by
    by_cases e : k = n
    · subst e
      have := sumTo_congr (f := f) (g := g) (n := k) fun i hi => h i (by omega) (by omega)
      show sumTo f k + f k + g k = sumTo g k + g k + f k
      omega
    · have ih := sumTo_set (f := f) (g := g) (k := k) (n := n) (by omega) fun i hi ne => h i (by omega) ne
      have := h n (by omega) (fun z => e z.symm)
      show sumTo f n + f n + g k = sumTo g n + g n + f k
      omega
theorem sumTo_const (c n : Nat) : sumTo (fun _ => c) n = n * c := by
  induction n with
  | zero => simp [sumTo]
  | succ n ih => simp [sumTo, ih, Nat.succ_mul]

/-! ### all of it -/
structure Good (W : Nat) (m : M) : Prop where
  ps : m.progs.length = m.hands.length
  ll : m.links.length = m.worths.length
  wl : m.worths.length ≤ W + sumTo (fun i => used (m.hd i)) m.hands.length
  fl : m.freed.length ≤ sumTo (fun i => (m.hd i).at_) m.hands.length
  el : m.ends.length ≤ sumTo (fun i => decd (m.prog i) (m.hd i)) m.hands.length
  count : okCount m
  hand : ∀ i, i < m.hands.length → HOk m.worths.length (m.prog i) (m.hd i)
  fr : ∀ c ∈ m.freed, 1 ≤ c ∧ c ≤ m.worths.length
  top : m.top ≤ m.worths.length
  links : ∀ c ∈ m.links, c ≤ m.worths.length

theorem M.hd_setH {m : M} {h i : Nat} {x : Hd} (hl : h < m.hands.length) : (m.setH h x).hd i = if i = h then x else m.hd i := by
  unfold M.hd M.setH
  simp only [List.getD_eq_getElem?_getD, List.getElem?_set]
  by_cases e : h = i
  · subst e
    simp [hl]
  · simp [e, Ne.symm e]
theorem M.setH_hd {m : M} {h : Nat} {x : Hd} (hl : h < m.hands.length) : (m.setH h x).hd h = x := by rw [M.hd_setH hl, if_pos rfl]
theorem M.setH_ne {m : M} {h i : Nat} {x : Hd} (hl : h < m.hands.length) (e : i ≠ h) : (m.setH h x).hd i = m.hd i := by rw [M.hd_setH hl, if_neg e]
theorem M.setH_len {m : M} {h : Nat} {x : Hd} : (m.setH h x).hands.length = m.hands.length := by simp [M.setH]
theorem M.setH_setH {m : M} {h : Nat} {x y : Hd} : (m.setH h x).setH h y = m.setH h y := by simp [M.setH, List.set_set]
theorem M.setH_self {m : M} {h : Nat} : m.setH h (m.hd h) = m := by
  unfold M.setH M.hd
  have : m.hands.set h (m.hands.getD h {}) = m.hands := by
    apply List.ext_getElem?
    intro i
    rw [List.getElem?_set]
    split
    · rename_i e
      subst e
      split
      · rename_i hl
        simp [List.getD_eq_getElem?_getD, List.getElem?_eq_getElem hl]
      · rename_i hl
        rw [List.getElem?_eq_none (by omega)]
    · rfl
  rw [this]

/-- one hand has turned: m1 is m but for its shared parts, x the hand's new self -/
theorem Good.turned {W : Nat} {m m1 : M} {h : Nat} {x : Hd} (g : Good W m) (hl : h < m.hands.length) (eh : m1.hands = m.hands) (ep : m1.progs = m.progs) (er : m1.rule = m.rule)
    (ll : m1.links.length = m1.worths.length) (wn : m.worths.length ≤ m1.worths.length) (wl : m1.worths.length + used (m.hd h) ≤ m.worths.length + used x) (fl : m1.freed.length + (m.hd h).at_ ≤ m.freed.length + x.at_)
    (el : m1.ends.length + decd (m.prog h) (m.hd h) ≤ m.ends.length + decd (m.prog h) x) (hx : HOk m1.worths.length (m.prog h) x) (fr : ∀ c ∈ m1.freed, 1 ≤ c ∧ c ≤ m1.worths.length) (top : m1.top ≤ m1.worths.length) (links : ∀ c ∈ m1.links, c ≤ m1.worths.length) :
    Good W (m1.setH h x) := by
  have hl1 : h < m1.hands.length := by rw [eh]; exact hl
  have hd1 : ∀ i, m1.hd i = m.hd i := fun i => by unfold M.hd; rw [eh]
  have hp : ∀ i, (m1.setH h x).prog i = m.prog i := fun i => by
    show m1.progs.getD i [] = m.progs.getD i []
    rw [ep]
  have hn : (m1.setH h x).hands.length = m.hands.length := by rw [M.setH_len, eh]
  have hd2 : ∀ i, i ≠ h → (m1.setH h x).hd i = m.hd i := fun i e => by rw [M.setH_ne hl1 e, hd1]
  have hd3 : (m1.setH h x).hd h = x := M.setH_hd hl1
  refine ⟨?_, ll, ?_, ?_, ?_, ?_, ?_, fr, top, links⟩
  · rw [hn]
    show m1.progs.length = _
    rw [ep]
    exact g.ps
  · rw [hn]
    have := sumTo_set (f := fun i => used ((m1.setH h x).hd i)) (g := fun i => used (m.hd i)) hl fun i _ e => by rw [hd2 i e]
    simp only [hd3] at this
    have := g.wl
    show m1.worths.length ≤ _
    omega
  · rw [hn]
    have := sumTo_set (f := fun i => ((m1.setH h x).hd i).at_) (g := fun i => (m.hd i).at_) hl fun i _ e => by rw [hd2 i e]
    simp only [hd3] at this
    have := g.fl
    show m1.freed.length ≤ _
    omega
  · rw [hn]
    have := sumTo_set (f := fun i => decd ((m1.setH h x).prog i) ((m1.setH h x).hd i)) (g := fun i => decd (m.prog i) (m.hd i)) hl fun i _ e => by rw [hd2 i e, hp]
    simp only [hd3, hp] at this ⊢
    have := g.el
    show m1.ends.length ≤ _
    omega
  · intro k hk
    exact g.count k (by rw [← er]; exact hk)
  · intro i hi
    rw [hn] at hi
    rw [hp]
    show HOk m1.worths.length _ _
    by_cases e : i = h
    · subst e
      rw [hd3]
      exact hx
    · rw [hd2 i e]
      exact (g.hand i hi).mono wn
theorem HOk.forgot {n : Nat} {p : List Deed} {x : Hd} (h : HOk n p x) (hc : p[x.at_]? = some .pop → x.cell = 0) : HOk n p x.forgot :=
  ⟨h.said, h.at_, fun e => ⟨(h.fin e).1, rfl⟩, h.cell, fun s e => (by cases e), fun s e => (by cases e), fun v s _ e => (by cases e), fun s _ e => (by cases e), fun e c => absurd (hc e) c⟩
theorem HOk.ended {n : Nat} {p : List Deed} {x : Hd} {d : Deed} (h : HOk n p x) (hd : p[x.at_]? = some d) (a : Ans) : HOk n p (x.ended a) := by
  refine ⟨?_, ?_, fun e => ⟨rfl, rfl⟩, Nat.zero_le _, fun s e => (by cases e), fun s e => (by cases e), fun v s _ e => (by cases e), fun s _ e => (by cases e), fun e c => absurd rfl c⟩
  · show (x.said ++ [a]).length = x.at_ + 1
    rw [List.length_append, h.said]
    rfl
  · have := (List.getElem?_eq_some_iff.mp hd).1
    exact this
theorem getD_le {l : List Nat} {n i : Nat} (h : ∀ c ∈ l, c ≤ n) : l.getD i 0 ≤ n := by
  rw [List.getD_eq_getElem?_getD]
  cases e : l[i]? with
  | none => exact Nat.zero_le _
  | some c => exact h c (List.mem_of_getElem? e)
theorem mem_set_le {l : List Nat} {n i t : Nat} (h : ∀ c ∈ l, c ≤ n) (ht : t ≤ n) : ∀ c ∈ l.set i t, c ≤ n := fun c hc => by
  rcases List.mem_or_eq_of_mem_set hc with z | z
  · exact h c z
  · omega
theorem used_ended {x : Hd} {a : Ans} : used (x.ended a) = x.at_ + 1 := by simp [used, Hd.ended]
theorem decd_ended {p : List Deed} {x : Hd} {a : Ans} : decd p (x.ended a) = x.at_ + 1 := by simp [decd, Hd.ended]
theorem used_lt {x : Hd} : used x ≤ x.at_ + 1 := by unfold used; split <;> omega
theorem pick_mem {r : Rule} {mk fr : List Nat} {c : Nat} (h : pick r mk fr = some c) : c ∈ fr := by
  unfold pick at h
  split at h
  · cases h
  · exact List.mem_of_find?_eq_some h

theorem used_cell (x : Hd) (c : Nat) : used { x with cell := c } = x.at_ + if c = 0 then 0 else 1 := rfl
theorem taken_some {m : M} {v : Int} {c : Nat} (h : pick m.rule m.marked m.freed = some c) : m.taken v = (c, { m with freed := m.freed.erase c, worths := m.worths.set (c - 1) v }) := by unfold M.taken; rw [h]
theorem taken_none {m : M} {v : Int} (h : pick m.rule m.marked m.freed = none) : m.taken v = (m.worths.length + 1, { m with worths := m.worths ++ [v], links := m.links ++ [0] }) := by unfold M.taken; rw [h]
theorem Good.turn {W : Nat} {m : M} {h : Nat} (g : Good W m) (hl : h < m.hands.length) : Good W (m.step h) := by
  have hx := g.hand h hl
  have self : ∀ {x : Hd}, used x = used (m.hd h) → x.at_ = (m.hd h).at_ → decd (m.prog h) x = decd (m.prog h) (m.hd h) → HOk m.worths.length (m.prog h) x → Good W (m.setH h x) := fun {x} e1 e2 e3 hx' =>
    g.turned hl rfl rfl rfl g.ll (Nat.le_refl _) (by omega) (by omega) (by omega) hx' g.fr g.top g.links
  unfold M.step M.turn
  cases hd : (m.prog h)[(m.hd h).at_]? with
  | none => exact g
  | some d =>
    have hat := (List.getElem?_eq_some_iff.mp hd).1
    cases d with
    | push v =>
      have dn : ∀ x : Hd, x.at_ = (m.hd h).at_ → decd (m.prog h) x = x.at_ := fun x e => by
        unfold decd
        rw [e, hd]
        simp
      simp only
      by_cases hc : (m.hd h).cell = 0
      · rw [if_pos hc]
        have u0 : used (m.hd h) = (m.hd h).at_ := by unfold used; rw [if_pos hc]; rfl
        have sn : (m.hd h).seen = none := by
          cases es : (m.hd h).seen with
          | none => rfl
          | some s =>
            have := hx.pushC v s hd es
            omega
        cases hp : pick m.rule m.marked m.freed with
        | some c =>
          rw [taken_some hp]
          show Good W (M.setH _ h { m.hd h with cell := c })
          have hc' := g.fr c (pick_mem hp)
          refine g.turned (m1 := { m with freed := m.freed.erase c, worths := m.worths.set (c - 1) v }) hl rfl rfl rfl (by simp [g.ll]) (by simp) ?_ ?_ ?_ ?_ ?_ (by simpa using g.top) (by simpa using g.links)
          · have e := used_cell (m.hd h) c
            rw [if_neg (by omega)] at e
            simp only [List.length_set]
            omega
          · simp only
            have := List.length_erase_le (a := c) (l := m.freed)
            omega
          · rw [dn { m.hd h with cell := c } rfl, dn (m.hd h) rfl]
            exact Nat.le_refl _
          · simp only [List.length_set]
            exact ⟨hx.said, hx.at_, fun e => absurd (hd.symm.trans e) (by simp), hc'.2, hx.seen, hx.follow, fun _ _ _ _ => hc'.1, hx.popC, fun e => absurd (hd.symm.trans e) (by simp)⟩
          · intro y hy
            have := g.fr y (List.mem_of_mem_erase hy)
            simpa using this
        | none =>
          rw [taken_none hp]
          show Good W (M.setH _ h { m.hd h with cell := m.worths.length + 1 })
          refine g.turned (m1 := { m with worths := m.worths ++ [v], links := m.links ++ [0] }) hl rfl rfl rfl (by simp [g.ll]) (by simp) ?_ ?_ ?_ ?_ ?_ ?_ ?_
          · have e := used_cell (m.hd h) (m.worths.length + 1)
            rw [if_neg (by omega)] at e
            simp only [List.length_append, List.length_singleton]
            omega
          · simp only
            omega
          · rw [dn { m.hd h with cell := m.worths.length + 1 } rfl, dn (m.hd h) rfl]
            exact Nat.le_refl _
          · simp only [List.length_append, List.length_singleton]
            have hx' := hx.mono (Nat.le_succ m.worths.length)
            exact ⟨hx.said, hx.at_, fun e => absurd (hd.symm.trans e) (by simp), Nat.le_refl _, hx'.seen, hx'.follow, fun _ _ _ _ => (by show 1 ≤ m.worths.length + 1; omega), hx.popC, fun e => absurd (hd.symm.trans e) (by simp)⟩
          · intro y hy
            have := g.fr y hy
            simp only [List.length_append, List.length_singleton]
            omega
          · have := g.top
            simp only [List.length_append, List.length_singleton]
            omega
          · intro y hy
            simp only [List.length_append, List.length_singleton]
            rcases List.mem_append.mp hy with z | z
            · have := g.links y z
              omega
            · have : y = 0 := by simpa using z
              omega
      · rw [if_neg hc]
        have u1 : used (m.hd h) = (m.hd h).at_ + 1 := by unfold used; rw [if_neg hc]
        cases es : (m.hd h).seen with
        | none =>
          simp only
          unfold M.read
          rw [if_neg (by simp)]
          refine self rfl rfl rfl ⟨hx.said, hx.at_, fun e => absurd (hd.symm.trans e) (by simp), hx.cell, fun s e => ?_, hx.follow, fun v s _ _ => (by show 1 ≤ (m.hd h).cell; omega), fun s e _ => absurd (hd.symm.trans e) (by simp), fun e => absurd (hd.symm.trans e) (by simp)⟩
          cases e
          exact g.top
        | some s =>
          simp only
          unfold M.push
          cases ef : (m.hd h).follow with
          | none =>
            simp only
            refine g.turned (m1 := { m with links := m.links.set ((m.hd h).cell - 1) s.1 }) hl rfl rfl rfl (by simp [g.ll]) (Nat.le_refl _) (Nat.le_refl _) (Nat.le_refl _) (Nat.le_refl _) ?_ g.fr g.top (mem_set_le g.links (hx.seen s es))
            exact ⟨hx.said, hx.at_, hx.fin, hx.cell, hx.seen, fun f e => (by cases e; exact hx.seen s es), hx.pushC, hx.popC, hx.popS⟩
          | some f =>
            simp only
            cases hf : m.fits h with
            | true =>
              rw [if_pos rfl]
              refine g.turned (m1 := m.exchd h (m.hd h).cell) (x := (m.hd h).ended .done) hl rfl rfl rfl g.ll (Nat.le_refl _) ?_ ?_ ?_ (hx.ended hd _) g.fr hx.cell g.links
              · rw [used_ended]
                show m.worths.length + _ ≤ m.worths.length + _
                omega
              · show m.freed.length + _ ≤ m.freed.length + ((m.hd h).at_ + 1)
                omega
              · rw [decd_ended, dn (m.hd h) rfl]
                show (m.ends ++ [_]).length + _ ≤ _
                rw [List.length_append]
                simp only [List.length_singleton]
                omega
            | false =>
              rw [if_neg (by simp)]
              exact self rfl rfl (by rw [dn (m.hd h).forgot rfl, dn (m.hd h) rfl]; rfl) (hx.forgot fun e => absurd (hd.symm.trans e) (by simp))
    | pop =>
      simp only
      cases es : (m.hd h).seen with
      | none =>
        have hc : (m.hd h).cell = 0 := by
          cases Nat.eq_zero_or_pos (m.hd h).cell with
          | inl z => exact z
          | inr z => exact absurd es (hx.popS hd (by omega))
        simp only
        unfold M.read
        by_cases ht : m.top = 0
        · rw [if_pos ⟨ht, rfl⟩]
          have u0 : used (m.hd h) = (m.hd h).at_ := by unfold used; rw [if_pos hc]; rfl
          have d0 : decd (m.prog h) (m.hd h) = (m.hd h).at_ := by unfold decd; rw [if_neg (by simp [hc])]; rfl
          refine g.turned (m1 := { m with ends := m.ends ++ [(h, (m.hd h).at_)] }) (x := (m.hd h).ended .non) hl rfl rfl rfl g.ll (Nat.le_refl _) ?_ ?_ ?_ (hx.ended hd _) g.fr g.top g.links
          · rw [used_ended]
            simp only
            omega
          · show m.freed.length + _ ≤ m.freed.length + ((m.hd h).at_ + 1)
            omega
          · rw [decd_ended]
            simp only [List.length_append, List.length_singleton]
            omega
        · rw [if_neg (fun z => ht z.1)]
          refine self rfl rfl rfl ⟨hx.said, hx.at_, fun e => absurd (hd.symm.trans e) (by simp), hx.cell, fun s e => ?_, hx.follow, fun v s e _ => absurd (hd.symm.trans e) (by simp), fun s _ e => ?_, fun _ _ => by simp⟩
          · cases e
            exact g.top
          · cases e
            show 1 ≤ m.top
            omega
      | some s =>
        simp only
        unfold M.pop
        by_cases hc : (m.hd h).cell = 0
        · rw [if_neg (fun z => z hc)]
          have u0 : used (m.hd h) = (m.hd h).at_ := by unfold used; rw [if_pos hc]; rfl
          have d0 : decd (m.prog h) (m.hd h) = (m.hd h).at_ := by unfold decd; rw [if_neg (by simp [hc])]; rfl
          have fg : Good W (m.setH h (m.hd h).forgot) := by
            refine self rfl rfl ?_ (hx.forgot fun _ => hc)
            show decd _ _ = _
            unfold decd Hd.forgot
            rfl
          split
          · unfold M.guard
            split
            · exact self rfl rfl rfl ⟨hx.said, hx.at_, hx.fin, hx.cell, hx.seen, hx.follow, hx.pushC, hx.popC, hx.popS⟩
            · split
              · exact fg
              · exact self rfl rfl rfl ⟨hx.said, hx.at_, hx.fin, hx.cell, hx.seen, hx.follow, hx.pushC, hx.popC, hx.popS⟩
          · cases ef : (m.hd h).follow with
            | none =>
              exact self rfl rfl rfl ⟨hx.said, hx.at_, hx.fin, hx.cell, hx.seen, fun f e => (by cases e; exact getD_le g.links), hx.pushC, hx.popC, hx.popS⟩
            | some f =>
              simp only
              cases hf : m.fits h with
              | true =>
                rw [if_pos rfl]
                have h1 := hx.popC s hd es
                have h2 := hx.seen s es
                refine g.turned (m1 := { m.exchd h f with strayed := m.strayed || m.links.getD (s.1 - 1) 0 != f }) (x := { m.hd h with cell := s.1 }) hl rfl rfl rfl g.ll (Nat.le_refl _) ?_ (Nat.le_refl _) ?_ ?_ g.fr (hx.follow f ef) g.links
                · have e := used_cell (m.hd h) s.1
                  rw [if_neg (by omega)] at e
                  show m.worths.length + _ ≤ m.worths.length + used { m.hd h with cell := s.1 }
                  dsimp only
                  omega
                · have : decd (m.prog h) { m.hd h with cell := s.1 } = (m.hd h).at_ + 1 := by
                    unfold decd
                    rw [if_pos ⟨hd, by show s.1 ≠ 0; omega⟩]
                  show (m.ends ++ [_]).length + _ ≤ _
                  rw [List.length_append]
                  simp only [List.length_singleton]
                  dsimp only at this ⊢
                  omega
                · exact ⟨hx.said, hx.at_, fun e => absurd (hd.symm.trans e) (by simp), h2, hx.seen, hx.follow, fun v s e _ => absurd (hd.symm.trans e) (by simp), hx.popC, fun _ _ => by show (m.hd h).seen ≠ none; rw [es]; simp⟩
              | false =>
                rw [if_neg (by simp)]
                exact fg
        · rw [if_pos hc]
          have u1 : used (m.hd h) = (m.hd h).at_ + 1 := by unfold used; rw [if_neg hc]
          have d1 : decd (m.prog h) (m.hd h) = (m.hd h).at_ + 1 := by unfold decd; rw [if_pos ⟨hd, hc⟩]
          refine g.turned (m1 := { m with freed := m.freed ++ [(m.hd h).cell] }) (x := (m.hd h).ended _) hl rfl rfl rfl g.ll (Nat.le_refl _) ?_ ?_ ?_ (hx.ended hd _) ?_ g.top g.links
          · rw [used_ended]
            simp only
            omega
          · show (m.freed ++ [_]).length + _ ≤ m.freed.length + ((m.hd h).at_ + 1)
            rw [List.length_append]
            simp only [List.length_singleton]
            omega
          · rw [decd_ended]
            simp only
            omega
          · intro y hy
            rcases List.mem_append.mp hy with z | z
            · exact g.fr y z
            · have e : y = (m.hd h).cell := by simpa using z
              have := hx.cell
              simp only
              omega
end SS

set_option linter.all false
/-! All comes to an end: a number that each step lowers. -/
namespace SS
def rank (r : Rule) (top count h : Nat) (p : List Deed) (x : Hd) : Nat :=
  match p[x.at_]? with
  | none => 0
  | some (.push _) => if x.cell = 0 then 6 else match x.seen with
    | none => 3
    | some s => (if s = (top, count) then 0 else 3) + (if x.follow = none then 2 else 1)
  | some .pop => if x.cell ≠ 0 then 1 else match x.seen with
    | none => 6
    | some s => (if s = (top, count) then 0 else 5) + (if r.named h = true ∧ x.looked = false then (if x.mark = s.1 then 4 else 5) else if x.follow = none then 3 else 2)
theorem rank_le (r : Rule) (top count h : Nat) (p : List Deed) (x : Hd) : rank r top count h p x ≤ 10 := by
  unfold rank
  split
  · omega
  · split
    · omega
    · split
      · omega
      · split <;> split <;> omega
  · split
    · omega
    · split
      · omega
      · split <;> split <;> (try split) <;> omega
def M.rk (m : M) (i : Nat) : Nat := rank m.rule m.top m.count i (m.prog i) (m.hd i)
def M.mE (m : M) : Nat := sumTo (fun i => (m.prog i).length - decd (m.prog i) (m.hd i)) m.hands.length
def M.mR (m : M) : Nat := sumTo (fun i => (m.prog i).length - (m.hd i).at_) m.hands.length
def M.mS (m : M) : Nat := sumTo m.rk m.hands.length
def M.mu (m : M) : Nat := 40 * m.mE + 10 * m.mR + m.mS

/-! what a step does to one hand, and to the rest -/
theorem step_progs (m : M) (h : Nat) : (m.step h).progs = m.progs ∧ (m.step h).rule = m.rule ∧ (m.step h).hands.length = m.hands.length ∧ ∀ i, i ≠ h → (m.step h).hd i = m.hd i := by
  have key : ∀ (m1 : M) (x : Hd), m1.progs = m.progs → m1.rule = m.rule → m1.hands = m.hands → (m1.setH h x).progs = m.progs ∧ (m1.setH h x).rule = m.rule ∧ (m1.setH h x).hands.length = m.hands.length ∧ ∀ i, i ≠ h → (m1.setH h x).hd i = m.hd i := by
    intro m1 x e1 e2 e3
    refine ⟨e1, e2, by rw [M.setH_len, e3], fun i ne => ?_⟩
    unfold M.hd M.setH
    simp only [List.getD_eq_getElem?_getD, List.getElem?_set, if_neg (Ne.symm ne), e3]
  have self : m.progs = m.progs ∧ m.rule = m.rule ∧ m.hands.length = m.hands.length ∧ ∀ i, i ≠ h → m.hd i = m.hd i := ⟨rfl, rfl, rfl, fun _ _ => rfl⟩
  unfold M.step M.turn
  split
  · exact self
  · split
    · cases hp : pick m.rule m.marked m.freed with
      | some c =>
        rw [taken_some hp]
        exact key _ _ rfl rfl rfl
      | none =>
        rw [taken_none hp]
        exact key _ _ rfl rfl rfl
    · split
      · unfold M.read
        split <;> exact key _ _ rfl rfl rfl
      · unfold M.push
        split
        · exact key _ _ rfl rfl rfl
        · split <;> exact key _ _ rfl rfl rfl
  · split
    · unfold M.read
      split <;> exact key _ _ rfl rfl rfl
    · unfold M.pop M.guard
      split
      · exact key _ _ rfl rfl rfl
      · split
        · split
          · exact key _ _ rfl rfl rfl
          · split <;> exact key _ _ rfl rfl rfl
        · split
          · exact key _ _ rfl rfl rfl
          · split <;> exact key _ _ rfl rfl rfl
theorem step_prog (m : M) (h i : Nat) : (m.step h).prog i = m.prog i := by unfold M.prog; rw [(step_progs m h).1]

theorem sumTo_lt {f g : Nat → Nat} {n k : Nat} (hk : k < n) (h : ∀ i, i < n → i ≠ k → f i = g i) (l : f k < g k) : sumTo f n < sumTo g n := by
  have := sumTo_set hk h
  omega
theorem sumTo_same {f g : Nat → Nat} {n k : Nat} (hk : k < n) (h : ∀ i, i < n → i ≠ k → f i = g i) (l : f k = g k) : sumTo f n = sumTo g n := by
  have := sumTo_set hk h
  omega
theorem mS_le (m : M) : m.mS ≤ 10 * m.hands.length := by
  have : m.mS ≤ sumTo (fun _ => 10) m.hands.length := sumTo_le fun i _ => rank_le ..
  rw [sumTo_const] at this
  omega

/-- the three ways in which a step goes down -/
inductive Down (m m' : M) (h : Nat) : Prop where
  | decides (h1 : decd (m.prog h) (m'.hd h) = decd (m.prog h) (m.hd h) + 1) (h2 : (m.hd h).at_ ≤ (m'.hd h).at_) (h3 : decd (m.prog h) (m.hd h) < (m.prog h).length)
  | ends (h1 : decd (m.prog h) (m'.hd h) = decd (m.prog h) (m.hd h)) (h2 : (m'.hd h).at_ = (m.hd h).at_ + 1) (h3 : (m.hd h).at_ < (m.prog h).length) (t : m'.top = m.top) (c : m'.count = m.count) (r : m.rk h = 1) (r' : rank m.rule m.top m.count h (m.prog h) (m'.hd h) ≤ 6)
  | goes (h1 : decd (m.prog h) (m'.hd h) = decd (m.prog h) (m.hd h)) (h2 : (m'.hd h).at_ = (m.hd h).at_) (t : m'.top = m.top) (c : m'.count = m.count) (r : rank m.rule m.top m.count h (m.prog h) (m'.hd h) < m.rk h)
theorem Down.mu {m : M} {h : Nat} (d : Down m (m.step h) h) (hl : h < m.hands.length) (h3 : m.hands.length ≤ 3) : (m.step h).mu < m.mu := by
  obtain ⟨e1, e2, e3, e4⟩ := step_progs m h
  have ep := step_prog m h
  have hs := mS_le (m.step h)
  rw [e3] at hs
  cases d with
  | decides a b c =>
    have E : (m.step h).mE < m.mE := by
      unfold M.mE
      rw [e3]
      refine sumTo_lt hl (fun i _ ne => by rw [ep, e4 i ne]) ?_
      simp only [ep]
      omega
    have Rr : (m.step h).mR ≤ m.mR := by
      unfold M.mR
      rw [e3]
      refine sumTo_le fun i _ => ?_
      rw [ep]
      by_cases e : i = h
      · subst e
        omega
      · rw [e4 i e]
        exact Nat.le_refl _
    unfold M.mu
    omega
  | ends a b c t k r r' =>
    have E : (m.step h).mE = m.mE := by
      unfold M.mE
      rw [e3]
      refine sumTo_same hl (fun i _ ne => by rw [ep, e4 i ne]) ?_
      simp only [ep]
      omega
    have Rr : (m.step h).mR < m.mR := by
      unfold M.mR
      rw [e3]
      refine sumTo_lt hl (fun i _ ne => by rw [ep, e4 i ne]) ?_
      simp only [ep]
      omega
    have S := sumTo_set (f := (m.step h).rk) (g := m.rk) hl fun i _ ne => by
      unfold M.rk
      rw [ep, e4 i ne, t, k, e2]
    have r2 : (m.step h).rk h ≤ 6 := by
      unfold M.rk
      rw [ep, t, k, e2]
      exact r'
    unfold M.mu M.mS
    rw [e3]
    omega
  | goes a b t k r =>
    have E : (m.step h).mE = m.mE := by
      unfold M.mE
      rw [e3]
      refine sumTo_same hl (fun i _ ne => by rw [ep, e4 i ne]) ?_
      simp only [ep]
      omega
    have Rr : (m.step h).mR = m.mR := by
      unfold M.mR
      rw [e3]
      refine sumTo_same hl (fun i _ ne => by rw [ep, e4 i ne]) ?_
      simp only [ep]
      omega
    have S : (m.step h).mS < m.mS := by
      unfold M.mS
      rw [e3]
      refine sumTo_lt hl (fun i _ ne => ?_) ?_
      · unfold M.rk
        rw [ep, e4 i ne, t, k, e2]
      · unfold M.rk
        rw [ep, t, k, e2]
        exact r
    unfold M.mu
    omega
theorem Down.goes' {m m1 : M} {h : Nat} {x : Hd} (hl : h < m.hands.length) (e : m1.hands = m.hands) (h1 : decd (m.prog h) x = decd (m.prog h) (m.hd h)) (h2 : x.at_ = (m.hd h).at_) (t : m1.top = m.top) (c : m1.count = m.count)
    (r : rank m.rule m.top m.count h (m.prog h) x < m.rk h) : Down m (m1.setH h x) h := by
  have hx : (m1.setH h x).hd h = x := M.setH_hd (by rw [e]; exact hl)
  exact .goes (by rw [hx]; exact h1) (by rw [hx]; exact h2) t c (by rw [hx]; exact r)
theorem Down.decides' {m m1 : M} {h : Nat} {x : Hd} (hl : h < m.hands.length) (e : m1.hands = m.hands) (h1 : decd (m.prog h) x = decd (m.prog h) (m.hd h) + 1) (h2 : (m.hd h).at_ ≤ x.at_) (h3 : decd (m.prog h) (m.hd h) < (m.prog h).length) : Down m (m1.setH h x) h := by
  have hx : (m1.setH h x).hd h = x := M.setH_hd (by rw [e]; exact hl)
  exact .decides (by rw [hx]; exact h1) (by rw [hx]; exact h2) h3
theorem Down.ends' {m m1 : M} {h : Nat} {x : Hd} (hl : h < m.hands.length) (e : m1.hands = m.hands) (h1 : decd (m.prog h) x = decd (m.prog h) (m.hd h)) (h2 : x.at_ = (m.hd h).at_ + 1) (h3 : (m.hd h).at_ < (m.prog h).length) (t : m1.top = m.top) (c : m1.count = m.count)
    (r : m.rk h = 1) (r' : rank m.rule m.top m.count h (m.prog h) x ≤ 6) : Down m (m1.setH h x) h := by
  have hx : (m1.setH h x).hd h = x := M.setH_hd (by rw [e]; exact hl)
  exact .ends (by rw [hx]; exact h1) (by rw [hx]; exact h2) h3 t c r (by rw [hx]; exact r')
theorem rank_new {r : Rule} {top count h : Nat} {p : List Deed} {x : Hd} {a : Ans} : rank r top count h p (x.ended a) ≤ 6 := by
  unfold rank Hd.ended
  simp only
  split
  · omega
  · simp
  · simp
theorem down {m : M} {h : Nat} (hl : h < m.hands.length) (hfr : ∀ c ∈ m.freed, 1 ≤ c) (hr : m.rests h = false) (hx : HOk m.worths.length (m.prog h) (m.hd h)) : Down m (m.step h) h := by
  have ne : (m.hd h).at_ ≠ (m.prog h).length := by
    unfold M.rests at hr
    simpa using hr
  have hat : (m.hd h).at_ < (m.prog h).length := by have := hx.at_; omega
  have hd : (m.prog h)[(m.hd h).at_]? = some (m.prog h)[(m.hd h).at_] := List.getElem?_eq_getElem hat
  generalize (m.prog h)[(m.hd h).at_] = d at hd
  have put : ∀ (m1 : M) (x : Hd), m1.hands = m.hands → (m1.setH h x).hd h = x := fun m1 x e => M.setH_hd (by rw [e]; exact hl)
  unfold M.step M.turn
  rw [hd]
  cases d with
  | push v =>
    have dn : ∀ x : Hd, x.at_ = (m.hd h).at_ → decd (m.prog h) x = x.at_ := fun x e => by
      unfold decd
      rw [e, hd]
      simp
    simp only
    by_cases hc : (m.hd h).cell = 0
    · rw [if_pos hc]
      have goal : ∀ (m1 : M) (c : Nat), c ≠ 0 → m1.hands = m.hands → m1.top = m.top → m1.count = m.count → Down m (m1.setH h { m.hd h with cell := c }) h := by
        intro m1 c hc' e1 e2 e3
        refine .goes' hl e1 ?_ ?_ e2 e3 ?_
        · exact (dn { m.hd h with cell := c } rfl).trans (dn (m.hd h) rfl).symm
        · rfl
        · unfold M.rk rank
          simp only [hd, if_pos hc, if_neg hc']
          split
          · omega
          · split <;> split <;> omega
      cases hp : pick m.rule m.marked m.freed with
      | some c =>
        rw [taken_some hp]
        by_cases c0 : c = 0
        · have := hfr c (pick_mem hp)
          omega
        · exact goal _ c c0 rfl rfl rfl
      | none =>
        rw [taken_none hp]
        exact goal _ _ (by omega) rfl rfl rfl
    · rw [if_neg hc]
      cases es : (m.hd h).seen with
      | none =>
        simp only
        unfold M.read
        rw [if_neg (by simp)]
        refine .goes' hl rfl ?_ ?_ rfl rfl ?_
        · exact (dn _ rfl).trans (dn (m.hd h) rfl).symm
        · rfl
        · unfold M.rk rank
          simp only [hd, if_neg hc, es, if_true]
          split <;> omega
      | some s =>
        simp only
        unfold M.push
        cases ef : (m.hd h).follow with
        | none =>
          simp only
          refine .goes' hl rfl ?_ ?_ rfl rfl ?_
          · exact (dn _ rfl).trans (dn (m.hd h) rfl).symm
          · rfl
          · unfold M.rk rank
            simp only [hd, if_neg hc, es, ef, if_true]
            simp
        | some f =>
          simp only
          cases hf : m.fits h with
          | true =>
            rw [if_pos rfl]
            refine .decides' hl rfl ?_ ?_ ?_
            · rw [decd_ended, dn (m.hd h) rfl]
              rfl
            · show _ ≤ (m.hd h).at_ + 1
              omega
            · rw [dn (m.hd h) rfl]
              exact hat
          | false =>
            rw [if_neg (by simp)]
            refine .goes' hl rfl ?_ ?_ rfl rfl ?_
            · exact (dn (m.hd h).forgot rfl).trans (dn (m.hd h) rfl).symm
            · rfl
            · have ns : ¬ (s = (m.top, m.count)) := fun e => by
                unfold M.fits at hf
                rw [es, e] at hf
                simp at hf
              unfold M.rk rank Hd.forgot
              simp only [hd, if_neg hc, es, ef, if_neg ns]
              simp
  | pop =>
    simp only
    cases es : (m.hd h).seen with
    | none =>
      have hc : (m.hd h).cell = 0 := by
        cases Nat.eq_zero_or_pos (m.hd h).cell with
        | inl z => exact z
        | inr z => exact absurd es (hx.popS hd (by omega))
      have d0 : decd (m.prog h) (m.hd h) = (m.hd h).at_ := by unfold decd; rw [if_neg (by simp [hc])]; rfl
      simp only
      unfold M.read
      by_cases ht : m.top = 0
      · rw [if_pos ⟨ht, rfl⟩]
        refine .decides' hl rfl ?_ ?_ ?_
        · rw [decd_ended, d0]
          rfl
        · show _ ≤ (m.hd h).at_ + 1
          omega
        · rw [d0]
          exact hat
      · rw [if_neg (fun z => ht z.1)]
        refine .goes' hl rfl ?_ ?_ rfl rfl ?_
        · rfl
        · rfl
        · unfold M.rk rank
          simp only [hd, hc, es, if_true, ne_eq, not_true_eq_false, if_false]
          split <;> (try split) <;> omega
    | some s =>
      simp only
      unfold M.pop
      by_cases hc : (m.hd h).cell = 0
      · rw [if_neg (fun z => z hc)]
        have d0 : decd (m.prog h) (m.hd h) = (m.hd h).at_ := by unfold decd; rw [if_neg (by simp [hc])]; rfl
        have fg : (¬ s = (m.top, m.count)) → Down m (m.setH h (m.hd h).forgot) h := fun ns => by
          refine .goes' hl rfl ?_ ?_ rfl rfl ?_
          · rfl
          · rfl
          · unfold M.rk rank Hd.forgot
            simp only [hd, hc, es, if_neg ns, ne_eq, not_true_eq_false, if_false]
            split <;> (try split) <;> omega
        split
        · rename_i hn
          unfold M.guard
          split
          · rename_i hm
            refine .goes' hl rfl ?_ ?_ rfl rfl ?_
            · rfl
            · rfl
            · unfold M.rk rank
              simp only [hd, hc, es, if_pos hn, if_neg hm, ne_eq, not_true_eq_false, if_false, if_true]
              omega
          · rename_i hm
            split
            · rename_i ht
              refine fg fun e => ht ?_
              rw [e]
            · refine .goes' hl rfl ?_ ?_ rfl rfl ?_
              · rfl
              · rfl
              · have hm' : (m.hd h).mark = s.1 := by simpa using hm
                unfold M.rk rank
                simp only [hd, hc, es, if_pos hn, if_pos hm', ne_eq, not_true_eq_false, if_false]
                simp only [Bool.true_eq_false, and_false, if_false]
                split <;> split <;> omega
        · rename_i hn
          cases ef : (m.hd h).follow with
          | none =>
            simp only
            refine .goes' hl rfl ?_ ?_ rfl rfl ?_
            · rfl
            · rfl
            · unfold M.rk rank
              simp only [hd, hc, es, ef, if_neg hn, ne_eq, not_true_eq_false, if_false, if_true]
              simp
          | some f =>
            simp only
            cases hf : m.fits h with
            | true =>
              rw [if_pos rfl]
              have h1 := hx.popC s hd es
              refine .decides' hl rfl ?_ ?_ ?_
              · rw [d0]
                unfold decd
                rw [if_pos ⟨hd, by show s.1 ≠ 0; omega⟩]
              · exact Nat.le_refl _
              · rw [d0]
                exact hat
            | false =>
              rw [if_neg (by simp)]
              exact fg fun e => by
                unfold M.fits at hf
                rw [es, e] at hf
                simp at hf
      · rw [if_pos hc]
        have d1 : decd (m.prog h) (m.hd h) = (m.hd h).at_ + 1 := by unfold decd; rw [if_pos ⟨hd, hc⟩]
        refine .ends' hl rfl ?_ ?_ hat rfl rfl ?_ ?_
        · rw [decd_ended, d1]
          rfl
        · rfl
        · unfold M.rk rank
          simp only [hd, if_pos hc]
        · exact rank_new

theorem Good.mu_lt {W : Nat} {m : M} {h : Nat} (g : Good W m) (hl : h < m.hands.length) (h3 : m.hands.length ≤ 3) (hr : m.rests h = false) : (m.step h).mu < m.mu :=
  (down hl (fun c hc => (g.fr c hc).1) hr (g.hand h hl)).mu hl h3
theorem step_rests {m : M} {h : Nat} (hr : m.rests h = true) : m.turn h = (.rests, m) := by
  unfold M.rests at hr
  have : (m.hd h).at_ = (m.prog h).length := eq_of_beq hr
  unfold M.turn
  rw [this, List.getElem?_eq_none (Nat.le_refl _)]
theorem Good.mu_le {W : Nat} {m : M} {h : Nat} (g : Good W m) (hl : h < m.hands.length) (h3 : m.hands.length ≤ 3) : (m.step h).mu ≤ m.mu := by
  cases hr : m.rests h with
  | true =>
    unfold M.step
    rw [step_rests hr]
    exact Nat.le_refl _
  | false => exact Nat.le_of_lt (g.mu_lt hl h3 hr)
/-- hands that play these programs by this rule -/
structure Fine (ps : List (List Deed)) (r : Rule) (m : M) : Prop where
  good : Good 6 m
  progs : m.progs = ps
  rule : m.rule = r
  plen : ps.length ≤ 3
  dlen : ∀ p ∈ ps, p.length ≤ 4
theorem Fine.hn {ps : List (List Deed)} {r : Rule} {m : M} (f : Fine ps r m) : m.hands.length = ps.length := by rw [← f.good.ps, f.progs]
theorem Fine.step {ps : List (List Deed)} {r : Rule} {m : M} {h : Nat} (f : Fine ps r m) (hl : h < ps.length) : Fine ps r (m.step h) := by
  obtain ⟨e1, e2, e3, e4⟩ := step_progs m h
  exact ⟨f.good.turn (by rw [f.hn]; exact hl), e1.trans f.progs, e2.trans f.rule, f.plen, f.dlen⟩
theorem getD_len {ps : List (List Deed)} (h : ∀ p ∈ ps, p.length ≤ 4) (i : Nat) : (ps.getD i []).length ≤ 4 := by
  rw [List.getD_eq_getElem?_getD]
  cases e : ps[i]? with
  | none => exact Nat.zero_le _
  | some p => exact h p (List.mem_of_getElem? e)
theorem Fine.bound {ps : List (List Deed)} {r : Rule} {m : M} (f : Fine ps r m) (g : Nat → Nat) (hg : ∀ i, i < m.hands.length → g i ≤ (m.prog i).length) : sumTo g m.hands.length ≤ 12 := by
  have h1 : sumTo g m.hands.length ≤ sumTo (fun _ => 4) m.hands.length := sumTo_le fun i hi => Nat.le_trans (hg i hi) (by
    unfold M.prog
    rw [f.progs]
    exact getD_len f.dlen i)
  rw [sumTo_const] at h1
  have := f.hn
  have := f.plen
  omega
theorem Fine.hand {ps : List (List Deed)} {r : Rule} {m : M} (f : Fine ps r m) (i : Nat) : HOk m.worths.length (m.prog i) (m.hd i) := by
  by_cases hi : i < m.hands.length
  · exact f.good.hand i hi
  · have e1 : m.hd i = {} := by
      unfold M.hd
      rw [List.getD_eq_getElem?_getD, List.getElem?_eq_none (by omega)]
      rfl
    have e2 : m.prog i = [] := by
      unfold M.prog
      rw [List.getD_eq_getElem?_getD, List.getElem?_eq_none (by rw [f.good.ps]; omega)]
      rfl
    rw [e1, e2]
    exact ⟨rfl, Nat.le_refl _, fun _ => ⟨rfl, rfl⟩, Nat.zero_le _, fun s e => (by cases e), fun s e => (by cases e), fun v s e => (by cases e), fun s e => (by cases e), fun e => (by cases e)⟩
theorem Fine.wn {ps : List (List Deed)} {r : Rule} {m : M} (f : Fine ps r m) : m.worths.length ≤ 18 := by
  have h1 := f.good.wl
  have h2 := f.bound (fun i => used (m.hd i)) fun i _ => (f.hand i).used_le
  omega
theorem Fine.wf {ps : List (List Deed)} {r : Rule} {m : M} (f : Fine ps r m) : Wf m := by
  have g := f.good
  have hn := f.hn
  have h3 := f.plen
  have hw := f.wn
  have h4 := f.bound (fun i => (m.hd i).at_) fun i _ => (f.hand i).at_
  have h5 := f.bound (fun i => decd (m.prog i) (m.hd i)) fun i _ => (f.hand i).dec_le
  have hf := g.fl
  have he := g.el
  refine ⟨g.ps, by omega, by omega, g.ll, by omega, by omega, g.count, fun h => ?_, fun h => (f.hand h).at_, g.fr, fun h => (f.hand h).cell, fun h => (f.hand h).pushC, fun h s e1 e2 => ⟨(f.hand h).popC s e1 e2, (f.hand h).seen s e2⟩⟩
  have h6 := (f.hand h).said
  have h7 := (f.hand h).at_
  have h8 : (m.prog h).length ≤ 4 := by
    unfold M.prog
    rw [f.progs]
    exact getD_len f.dlen h
  omega
theorem Fine.pile {ps : List (List Deed)} {r : Rule} {m : M} (f : Fine ps r m) : PileOk m := by
  have g := f.good
  have hw := f.wn
  exact ⟨by omega, g.ll, by rw [g.ll]; exact g.top, fun c hc => by rw [g.ll]; exact g.links c hc⟩
theorem Fine.begin_ {values : List Int} {ps : List (List Deed)} {r : Rule} (ok : okIn values ps r) : Fine ps r (M.begin_ values ps r) := by
  have hd : ∀ i, (M.begin_ values ps r).hd i = {} := fun i => by
    unfold M.hd M.begin_
    simp only [List.getD_eq_getElem?_getD, List.getElem?_map]
    cases ps[i]? <;> rfl
  refine ⟨⟨by simp [M.begin_], by simp [M.begin_], ?_, by simp [M.begin_], by simp [M.begin_], ?_, fun i _ => ?_, by simp [M.begin_], by simp [M.begin_], ?_⟩, rfl, rfl, ok.plen.2, ok.dlen⟩
  · have := ok.vlen
    show values.length ≤ _
    omega
  · intro k hk
    have e : r = .counts k := hk
    have := ok.rule
    rw [e] at this
    exact this.1
  · rw [hd]
    exact ⟨rfl, Nat.zero_le _, fun _ => ⟨rfl, rfl⟩, Nat.zero_le _, fun s e => (by cases e), fun s e => (by cases e), fun v s _ e => (by cases e), fun s _ e => (by cases e), fun _ e => absurd rfl e⟩
  · intro c hc
    have : c ∈ List.range values.length := hc
    have := List.mem_range.mp this
    show c ≤ values.length
    omega
theorem Fine.run {ps : List (List Deed)} {r : Rule} : ∀ {w : List Nat} {m : M}, Fine ps r m → (∀ h ∈ w, h < ps.length) → Fine ps r (m.run w)
  | [], m, f, _ => f
  | h :: w, m, f, hw => Fine.run (w := w) (f.step (hw h List.mem_cons_self)) fun x hx => hw x (List.mem_cons_of_mem _ hx)

/-! ### whole weavings; deeds one after another -/
def M.tells (m : M) : List Nat → List Tell
  | [] => []
  | h :: w => (m.turn h).1 :: (m.step h).tells w
def M.round (m : M) : M := m.run (List.range m.hands.length)
def M.finish : Nat → M → M
  | 0, m => m
  | n + 1, m => if m.isDone = true then m else M.finish n m.round
def wholeM (values : List Int) (ps : List (List Deed)) (r : Rule) (w : List Nat) : M := M.finish 1000 ((M.begin_ values ps r).run w)
def serialStep (z : List Ans × List Int) (d : Deed) : List Ans × List Int :=
  match d with
  | .push v => (z.1 ++ [.done], z.2 ++ [v])
  | .pop => match z.2.getLast? with
    | none => (z.1 ++ [.non], z.2)
    | some v => (z.1 ++ [.val v], z.2.dropLast)
def serial (values : List Int) (ds : List Deed) : List Ans × List Int := ds.foldl serialStep ([], values)
theorem serial_len : ∀ (ds : List Deed) (z : List Ans × List Int), (ds.foldl serialStep z).1.length = z.1.length + ds.length ∧ (ds.foldl serialStep z).2.length ≤ z.2.length + ds.length
  | [], z => ⟨rfl, Nat.le_refl _⟩
  | d :: ds, z => by
    obtain ⟨h1, h2⟩ := serial_len ds (serialStep z d)
    have e : (serialStep z d).1.length = z.1.length + 1 ∧ (serialStep z d).2.length ≤ z.2.length + 1 := by
      unfold serialStep
      cases d with
      | push v => simp
      | pop =>
        cases z.2.getLast? with
        | none => simp
        | some v => simp; omega
    simp only [List.foldl_cons, List.length_cons]
    omega
theorem run_append (m : M) (a b : List Nat) : m.run (a ++ b) = (m.run a).run b := List.foldl_append ..
theorem run_snoc (m : M) (a : List Nat) (h : Nat) : m.run (a ++ [h]) = (m.run a).step h := by rw [run_append]; rfl
theorem tells_snoc (h : Nat) : ∀ (a : List Nat) (m : M), m.tells (a ++ [h]) = m.tells a ++ [((m.run a).turn h).1]
  | [], m => rfl
  | x :: a, m => congrArg ((m.turn x).1 :: ·) (tells_snoc h a (m.step x))
theorem tells_len : ∀ (a : List Nat) (m : M), (m.tells a).length = a.length
  | [], m => rfl
  | x :: a, m => congrArg (· + 1) (tells_len a (m.step x))
theorem Fine.run_mu {ps : List (List Deed)} {r : Rule} : ∀ {w : List Nat} {m : M}, Fine ps r m → (∀ h ∈ w, h < ps.length) → (m.run w).mu ≤ m.mu
  | [], m, f, _ => Nat.le_refl _
  | h :: w, m, f, hw => by
    have h1 := hw h List.mem_cons_self
    have := Fine.run_mu (w := w) (f.step h1) fun x hx => hw x (List.mem_cons_of_mem _ hx)
    have := f.good.mu_le (h := h) (by rw [f.hn]; exact h1) (by rw [f.hn]; exact f.plen)
    show ((m.step h).run w).mu ≤ _
    omega
theorem Fine.run_lt {ps : List (List Deed)} {r : Rule} : ∀ {w : List Nat} {m : M}, Fine ps r m → (∀ h ∈ w, h < ps.length) → (∃ h ∈ w, m.rests h = false) → (m.run w).mu < m.mu
  | [], m, f, _, ⟨h, hh, _⟩ => by cases hh
  | h :: w, m, f, hw, ⟨x, hx, hr⟩ => by
    have h1 := hw h List.mem_cons_self
    have hw' : ∀ x ∈ w, x < ps.length := fun x hx => hw x (List.mem_cons_of_mem _ hx)
    have l3 : m.hands.length ≤ 3 := by rw [f.hn]; exact f.plen
    have hl : h < m.hands.length := by rw [f.hn]; exact h1
    show ((m.step h).run w).mu < _
    have a := Fine.run_mu (f.step h1) hw'
    cases e : m.rests h with
    | false =>
      have := f.good.mu_lt hl l3 e
      omega
    | true =>
      have ne : x ≠ h := fun z => by rw [z, e] at hr; cases hr
      have hx' : x ∈ w := by
        rcases List.mem_cons.mp hx with z | z
        · exact absurd z ne
        · exact z
      have es : m.step h = m := by
        unfold M.step
        rw [step_rests e]
      rw [es]
      exact Fine.run_lt f hw' ⟨x, hx', hr⟩
theorem Fine.round_lt {ps : List (List Deed)} {r : Rule} {m : M} (f : Fine ps r m) (h : m.isDone = false) : m.round.mu < m.mu := by
  refine f.run_lt (fun h hh => by rw [← f.hn]; exact List.mem_range.mp hh) ?_
  unfold M.isDone at h
  have : ¬ (List.range m.hands.length).all m.rests = true := by rw [h]; exact Bool.false_ne_true
  rw [List.all_eq_true] at this
  apply Classical.byContradiction
  intro n
  refine this fun x hx => ?_
  cases e : m.rests x with
  | true => rfl
  | false => exact absurd ⟨x, hx, e⟩ n
theorem Fine.round {ps : List (List Deed)} {r : Rule} {m : M} (f : Fine ps r m) : Fine ps r m.round := f.run fun h hh => by rw [← f.hn]; exact List.mem_range.mp hh
theorem Fine.mu_le {ps : List (List Deed)} {r : Rule} {m : M} (f : Fine ps r m) : m.mu < 1000 := by
  have h1 := f.bound (fun i => (m.prog i).length - decd (m.prog i) (m.hd i)) fun i _ => Nat.sub_le _ _
  have h2 := f.bound (fun i => (m.prog i).length - (m.hd i).at_) fun i _ => Nat.sub_le _ _
  have h3 := mS_le m
  have h4 := f.hn
  have h5 := f.plen
  unfold M.mu M.mE M.mR
  omega
theorem finish_done {m : M} (h : m.isDone = true) : ∀ n, M.finish n m = m
  | 0 => rfl
  | n + 1 => by
    unfold M.finish
    rw [if_pos h]
theorem finish_step {m : M} {n : Nat} (h : m.isDone = false) : M.finish (n + 1) m = M.finish n m.round := by
  conv => lhs; unfold M.finish
  rw [h, if_neg Bool.false_ne_true]
theorem Fine.finish {ps : List (List Deed)} {r : Rule} : ∀ {n : Nat} {m : M}, Fine ps r m → m.mu < n → Fine ps r (M.finish n m) ∧ (M.finish n m).isDone = true
  | 0, m, f, h => by omega
  | n + 1, m, f, h => by
    cases e : m.isDone with
    | true =>
      rw [finish_done e]
      exact ⟨f, e⟩
    | false =>
      rw [finish_step e]
      have := f.round_lt e
      exact Fine.finish f.round (by omega)
end SS

set_option linter.all false
/-! One hand does a whole deed, all others wait: the pile as a list of cells. -/
namespace SS
/-- the cells of the pile, the top first -/
def chain (links : List Nat) : Nat → List Nat → Prop
  | t, [] => t = 0
  | t, c :: p => t = c ∧ c ≠ 0 ∧ chain links (links.getD (c - 1) 0) p
theorem chain_zero {links : List Nat} {p : List Nat} (h : chain links 0 p) : p = [] := by
  cases p with
  | nil => rfl
  | cons c p =>
    obtain ⟨e, n, _⟩ := h
    exact absurd e.symm n
theorem chain_set {links : List Nat} {c t : Nat} (h0 : c ≠ 0) : ∀ {p : List Nat} {x : Nat}, chain links x p → c ∉ p → (∀ d ∈ p, d ≠ 0) → chain (links.set (c - 1) t) x p
  | [], x, h, _, _ => h
  | d :: p, x, h, n, z => by
    obtain ⟨e, d0, k⟩ := h
    have nd : d ≠ c := fun e => n (e ▸ List.mem_cons_self)
    refine ⟨e, d0, ?_⟩
    have e2 : (links.set (c - 1) t).getD (d - 1) 0 = links.getD (d - 1) 0 := by
      simp only [List.getD_eq_getElem?_getD, List.getElem?_set]
      rw [if_neg (by omega)]
    rw [e2]
    exact chain_set h0 k (fun h => n (List.mem_cons_of_mem _ h)) fun x hx => z x (List.mem_cons_of_mem _ hx)
theorem chain_grow {links : List Nat} {t : Nat} : ∀ {p : List Nat} {x : Nat}, chain links x p → (∀ d ∈ p, 1 ≤ d ∧ d ≤ links.length) → chain (links ++ [t]) x p
  | [], x, h, _ => h
  | d :: p, x, h, z => by
    obtain ⟨e, d0, k⟩ := h
    refine ⟨e, d0, ?_⟩
    have hd := z d List.mem_cons_self
    have e2 : (links ++ [t]).getD (d - 1) 0 = links.getD (d - 1) 0 := by
      simp only [List.getD_eq_getElem?_getD]
      rw [List.getElem?_append_left (by omega)]
    rw [e2]
    exact chain_grow k fun x hx => z x (List.mem_cons_of_mem _ hx)
theorem pileFrom_chain {links : List Nat} : ∀ (n : Nat) {p found : List Nat} {x : Nat}, chain links x p → (found ++ p).Nodup → p.length < n → M.pileFrom links n found x = found ++ p
  | 0, p, found, x, _, _, h => by omega
  | n + 1, [], found, x, h, _, _ => by
    have e : x = 0 := h
    unfold M.pileFrom
    rw [if_pos (.inl e), List.append_nil]
  | n + 1, c :: p, found, x, h, nd, l => by
    obtain ⟨rfl, c0, k⟩ := h
    unfold M.pileFrom
    have nf : x ∉ found := fun hm => by
      have := (List.nodup_append.mp nd).2.2 x hm x List.mem_cons_self
      exact this rfl
    rw [if_neg (fun z => z.elim c0 nf)]
    have := pileFrom_chain n (p := p) (found := found ++ [x]) k (by rw [List.append_assoc]; exact nd) (by simp only [List.length_cons] at l; omega)
    rw [this, List.append_assoc]
    rfl
theorem nodup_len : ∀ (n : Nat) {l : List Nat}, l.Nodup → (∀ x ∈ l, 1 ≤ x ∧ x ≤ n) → l.length ≤ n
  | 0, l, _, h => by
    cases l with
    | nil => exact Nat.le_refl _
    | cons a l =>
      have := h a List.mem_cons_self
      omega
  | n + 1, l, nd, h => by
    by_cases e : n + 1 ∈ l
    · have h1 := nodup_len n (l := l.erase (n + 1)) (nd.erase _) fun x hx => by
        have h2 := (nd.mem_erase_iff).mp hx
        have h3 := h x h2.2
        have := h2.1
        omega
      rw [List.length_erase_of_mem e] at h1
      have : 0 < l.length := List.length_pos_of_mem e
      omega
    · have := nodup_len n nd fun x hx => by
        have h3 := h x hx
        have : x ≠ n + 1 := fun z => e (z ▸ hx)
        omega
      omega
/-- a hand that has begun nothing -/
def Hd.fresh (x : Hd) : Prop := x.cell = 0 ∧ x.seen = none ∧ x.follow = none ∧ x.mark = 0 ∧ x.looked = false
structure Calm (m : M) (p : List Nat) : Prop where
  ch : chain m.links m.top p
  nd : p.Nodup
  inn : ∀ c ∈ p, 1 ≤ c ∧ c ≤ m.worths.length
  ll : m.links.length = m.worths.length
  fr : ∀ c ∈ m.freed, 1 ≤ c ∧ c ≤ m.worths.length ∧ c ∉ p
  fd : m.freed.Nodup
  fresh : ∀ h, (m.hd h).fresh
  calm : m.strayed = false
theorem Calm.len {m : M} {p : List Nat} (c : Calm m p) : p.length ≤ m.worths.length := by
  exact nodup_len _ c.nd c.inn
theorem Calm.pile {m : M} {p : List Nat} (c : Calm m p) : m.pile = p := by
  unfold M.pile
  have := c.len
  have := c.ll
  rw [pileFrom_chain _ c.ch (by rw [List.nil_append]; exact c.nd) (by omega)]
  rfl
theorem Calm.values {m : M} {p : List Nat} (c : Calm m p) : m.pileValues = p.map fun x => m.worths.getD (x - 1) 0 := by
  unfold M.pileValues
  rw [c.pile]

/-! ### single turns, told -/
section
variable {m : M} {h : Nat}
theorem turn_pop {s : Nat × Nat} (hd : (m.prog h)[(m.hd h).at_]? = some .pop) (hs : (m.hd h).seen = some s) : m.turn h = m.pop h s.1 := by
  unfold M.turn
  rw [hd]
  simp only [hs]
theorem turn_push {v : Int} {s : Nat × Nat} (hd : (m.prog h)[(m.hd h).at_]? = some (.push v)) (hc : (m.hd h).cell ≠ 0) (hs : (m.hd h).seen = some s) : m.turn h = m.push h s.1 := by
  unfold M.turn
  rw [hd]
  simp only [if_neg hc, hs]
theorem turn_readP (hd : (m.prog h)[(m.hd h).at_]? = some .pop) (hs : (m.hd h).seen = none) : m.turn h = m.read h .pop := by
  unfold M.turn
  rw [hd]
  simp only [hs]
theorem turn_readQ {v : Int} (hd : (m.prog h)[(m.hd h).at_]? = some (.push v)) (hc : (m.hd h).cell ≠ 0) (hs : (m.hd h).seen = none) : m.turn h = m.read h (.push v) := by
  unfold M.turn
  rw [hd]
  simp only [if_neg hc, hs]
theorem turn_takes {v : Int} (hd : (m.prog h)[(m.hd h).at_]? = some (.push v)) (hc : (m.hd h).cell = 0) : m.turn h = (.takes (m.taken v).1, (m.taken v).2.setH h { m.hd h with cell := (m.taken v).1 }) := by
  unfold M.turn
  rw [hd]
  exact if_pos hc
theorem turn_reads_push {v : Int} (hd : (m.prog h)[(m.hd h).at_]? = some (.push v)) (hc : (m.hd h).cell ≠ 0) (hs : (m.hd h).seen = none) : m.turn h = (.reads m.top, m.setH h { m.hd h with seen := some (m.top, m.count) }) := by
  rw [turn_readQ hd hc hs]
  unfold M.read
  rw [if_neg (fun z => by cases z.2)]
theorem turn_links {v : Int} {s : Nat × Nat} (hd : (m.prog h)[(m.hd h).at_]? = some (.push v)) (hc : (m.hd h).cell ≠ 0) (hs : (m.hd h).seen = some s) (hf : (m.hd h).follow = none) : m.turn h = (.links s.1, { m with links := m.links.set ((m.hd h).cell - 1) s.1 }.setH h { m.hd h with follow := some s.1 }) := by
  rw [turn_push hd hc hs]
  unfold M.push
  rw [hf]
theorem turn_pushed {v : Int} {f : Nat} (hd : (m.prog h)[(m.hd h).at_]? = some (.push v)) (hc : (m.hd h).cell ≠ 0) (hs : (m.hd h).seen = some (m.top, m.count)) (hf : (m.hd h).follow = some f) : m.turn h = (.ends .done, (m.exchd h (m.hd h).cell).endedH h .done) := by
  rw [turn_push hd hc hs]
  have hfit : m.fits h = true := by
    unfold M.fits
    rw [hs]
    simp
  unfold M.push
  rw [hf]
  simp only [hfit, if_true]
theorem turn_empty (hd : (m.prog h)[(m.hd h).at_]? = some .pop) (hs : (m.hd h).seen = none) (ht : m.top = 0) : m.turn h = (.ends .non, { m with ends := m.ends ++ [(h, (m.hd h).at_)] }.endedH h .non) := by
  rw [turn_readP hd hs]
  unfold M.read
  rw [if_pos ⟨ht, rfl⟩]
theorem turn_reads_pop (hd : (m.prog h)[(m.hd h).at_]? = some .pop) (hs : (m.hd h).seen = none) (ht : m.top ≠ 0) : m.turn h = (.reads m.top, m.setH h { m.hd h with seen := some (m.top, m.count) }) := by
  rw [turn_readP hd hs]
  unfold M.read
  rw [if_neg (fun z => ht z.1)]
theorem turn_marks {s : Nat × Nat} (hd : (m.prog h)[(m.hd h).at_]? = some .pop) (hs : (m.hd h).seen = some s) (hc : (m.hd h).cell = 0) (hn : m.rule.named h = true) (hl : (m.hd h).looked = false) (hm : (m.hd h).mark ≠ s.1) : m.turn h = (.marks s.1, m.setH h { m.hd h with mark := s.1 }) := by
  rw [turn_pop hd hs]
  unfold M.pop M.guard
  have e' : ¬ ((m.hd h).cell ≠ 0) := fun z => z hc
  rw [if_neg e', if_pos ⟨hn, hl⟩, if_pos hm]
theorem turn_looks {s : Nat × Nat} (hd : (m.prog h)[(m.hd h).at_]? = some .pop) (hs : (m.hd h).seen = some s) (hc : (m.hd h).cell = 0) (hn : m.rule.named h = true) (hl : (m.hd h).looked = false) (hm : (m.hd h).mark = s.1) (ht : m.top = s.1) : m.turn h = (.looks true, m.setH h { m.hd h with looked := true }) := by
  rw [turn_pop hd hs]
  unfold M.pop M.guard
  have e' : ¬ ((m.hd h).cell ≠ 0) := fun z => z hc
  rw [if_neg e', if_pos ⟨hn, hl⟩, if_neg (fun z => z hm), if_neg (fun z => z ht)]
theorem turn_follows {s : Nat × Nat} (hd : (m.prog h)[(m.hd h).at_]? = some .pop) (hs : (m.hd h).seen = some s) (hc : (m.hd h).cell = 0) (hn : ¬ (m.rule.named h = true ∧ (m.hd h).looked = false)) (hf : (m.hd h).follow = none) :
    m.turn h = (.follows (m.links.getD (s.1 - 1) 0), m.setH h { m.hd h with follow := some (m.links.getD (s.1 - 1) 0) }) := by
  rw [turn_pop hd hs]
  unfold M.pop
  have e' : ¬ ((m.hd h).cell ≠ 0) := fun z => z hc
  rw [if_neg e', if_neg hn, hf]
theorem turn_exchanges {f : Nat} (hd : (m.prog h)[(m.hd h).at_]? = some .pop) (hs : (m.hd h).seen = some (m.top, m.count)) (hc : (m.hd h).cell = 0) (hn : ¬ (m.rule.named h = true ∧ (m.hd h).looked = false)) (hf : (m.hd h).follow = some f) :
    m.turn h = (.exchanges f, { m.exchd h f with strayed := m.strayed || m.links.getD (m.top - 1) 0 != f }.setH h { m.hd h with cell := m.top }) := by
  rw [turn_pop hd hs]
  have hfit : m.fits h = true := by
    unfold M.fits
    rw [hs]
    simp
  have e' : ¬ ((m.hd h).cell ≠ 0) := fun z => z hc
  unfold M.pop
  rw [if_neg e', if_neg hn]
  cases ef : (m.hd h).follow with
  | none =>
    rw [hf] at ef
    cases ef
  | some g =>
    rw [hf] at ef
    cases ef
    simp only [hfit, if_true]
theorem turn_popped {s : Nat × Nat} (hd : (m.prog h)[(m.hd h).at_]? = some .pop) (hs : (m.hd h).seen = some s) (hc : (m.hd h).cell ≠ 0) :
    m.turn h = (.ends (.val (m.worths.getD ((m.hd h).cell - 1) 0)), { m with freed := m.freed ++ [(m.hd h).cell] }.endedH h (.val (m.worths.getD ((m.hd h).cell - 1) 0))) := by
  rw [turn_pop hd hs]
  unfold M.pop
  rw [if_pos hc]
end

def Tell.good (t : Tell) : Prop := t ≠ .misses ∧ t ≠ .looks false ∧ t ≠ .rests
/-- so many turns of one hand do a deed -/
inductive Does (h : Nat) : Nat → M → M → Prop where
  | last {m : M} (g : (m.turn h).1.good) (s : ((m.step h).hd h).said.length = (m.hd h).said.length + 1) : Does h 1 m (m.step h)
  | more {n : Nat} {m m' : M} (g : (m.turn h).1.good) (s : ((m.step h).hd h).said.length = (m.hd h).said.length) (d : Does h n (m.step h) m') : Does h (n + 1) m m'
theorem Does.of {h n : Nat} {m m1 m' : M} {t : Tell} (e : m.turn h = (t, m1)) (g : t.good) (s : (m1.hd h).said.length = (m.hd h).said.length) (d : Does h n m1 m') : Does h (n + 1) m m' := by
  have e1 : m.step h = m1 := by unfold M.step; rw [e]
  refine .more (by rw [e]; exact g) (by rw [e1]; exact s) (by rw [e1]; exact d)
theorem Does.end_ {h : Nat} {m m1 : M} {t : Tell} (e : m.turn h = (t, m1)) (g : t.good) (s : (m1.hd h).said.length = (m.hd h).said.length + 1) : Does h 1 m m1 := by
  have e1 : m.step h = m1 := by unfold M.step; rw [e]
  rw [← e1]
  exact .last (by rw [e]; exact g) (by rw [e1]; exact s)
/-- a cell is taken: what stands then -/
theorem taken_calm {m : M} {p : List Nat} (C : Calm m p) (v : Int) : ∃ c m', m.taken v = (c, m') ∧ 1 ≤ c ∧ c ≤ m'.worths.length ∧ c ∉ p ∧ c ∉ m'.freed ∧ m'.rule = m.rule ∧ m'.progs = m.progs ∧ m'.hands = m.hands ∧ m'.top = m.top ∧ m'.count = m.count ∧ m'.ends = m.ends ∧ m'.strayed = false ∧
    m'.links.length = m'.worths.length ∧ chain m'.links m.top p ∧ (∀ x ∈ p, 1 ≤ x ∧ x ≤ m'.worths.length) ∧ (∀ x ∈ m'.freed, 1 ≤ x ∧ x ≤ m'.worths.length ∧ x ∉ p) ∧ m'.freed.Nodup ∧ m'.worths.getD (c - 1) 0 = v ∧ ∀ x ∈ p, m'.worths.getD (x - 1) 0 = m.worths.getD (x - 1) 0 := by
  cases hp : pick m.rule m.marked m.freed with
  | some c =>
    have hm : c ∈ m.freed := by
      unfold pick at hp
      split at hp
      · cases hp
      · exact List.mem_of_find?_eq_some hp
    obtain ⟨h1, h2, h3⟩ := C.fr c hm
    rw [taken_some hp]
    refine ⟨c, _, rfl, h1, by simp; exact h2, h3, ?_, rfl, rfl, rfl, rfl, rfl, rfl, C.calm, ?_, C.ch, ?_, ?_, C.fd.erase c, ?_, ?_⟩
    · exact fun z => ((C.fd.mem_erase_iff).mp z).1 rfl
    · show m.links.length = (m.worths.set _ _).length
      rw [List.length_set]
      exact C.ll
    · intro x hx
      show _ ∧ x ≤ (m.worths.set _ _).length
      rw [List.length_set]
      exact C.inn x hx
    · intro x hx
      show _ ∧ x ≤ (m.worths.set _ _).length ∧ _
      rw [List.length_set]
      exact C.fr x (List.mem_of_mem_erase hx)
    · show (m.worths.set (c - 1) v).getD (c - 1) 0 = v
      rw [List.getD_eq_getElem?_getD, List.getElem?_set_self (by omega)]
      rfl
    · intro x hx
      have := (C.inn x hx).1
      have ne : x ≠ c := fun e => h3 (e ▸ hx)
      show (m.worths.set (c - 1) v).getD (x - 1) 0 = _
      simp only [List.getD_eq_getElem?_getD, List.getElem?_set]
      rw [if_neg (by omega)]
  | none =>
    rw [taken_none hp]
    refine ⟨m.worths.length + 1, _, rfl, by omega, by simp, ?_, ?_, rfl, rfl, rfl, rfl, rfl, rfl, C.calm, ?_, ?_, ?_, ?_, C.fd, ?_, ?_⟩
    · exact fun z => by have := (C.inn _ z).2; omega
    · exact fun z => by have := (C.fr _ z).2.1; omega
    · show (m.links ++ [0]).length = (m.worths ++ [v]).length
      rw [List.length_append, List.length_append, C.ll]
      rfl
    · exact chain_grow C.ch fun d hd => by rw [C.ll]; exact C.inn d hd
    · intro x hx
      have := C.inn x hx
      show _ ∧ x ≤ (m.worths ++ [v]).length
      rw [List.length_append]
      exact ⟨this.1, by omega⟩
    · intro x hx
      have := C.fr x hx
      show _ ∧ x ≤ (m.worths ++ [v]).length ∧ _
      rw [List.length_append]
      exact ⟨this.1, by omega, this.2.2⟩
    · show (m.worths ++ [v]).getD (m.worths.length + 1 - 1) 0 = v
      simp
    · intro x hx
      have := C.inn x hx
      show (m.worths ++ [v]).getD (x - 1) 0 = _
      simp only [List.getD_eq_getElem?_getD]
      rw [List.getElem?_append_left (by omega)]

theorem ended_fresh (x : Hd) (a : Ans) : (x.ended a).fresh := ⟨rfl, rfl, rfl, rfl, rfl⟩
/-- a push alone: four turns -/
theorem solo_push {m : M} {p : List Nat} {h : Nat} {v : Int} (C : Calm m p) (hl : h < m.hands.length) (hd : (m.prog h)[(m.hd h).at_]? = some (.push v)) :
    ∃ m' c, Does h 4 m m' ∧ Calm m' (c :: p) ∧ m'.worths.getD (c - 1) 0 = v ∧ (∀ x ∈ p, m'.worths.getD (x - 1) 0 = m.worths.getD (x - 1) 0) ∧ m'.ends = m.ends ++ [(h, (m.hd h).at_)] ∧ m'.hd h = (m.hd h).ended .done ∧ ∀ i, i ≠ h → m'.hd i = m.hd i := by
  obtain ⟨c, m', et, c1, c2, c3, c4, er, ep, eh, etop, ec, ee, es, ll, ch, inn, fr, fd, w1, w2⟩ := taken_calm C v
  obtain ⟨f1, f2, f3, f4, f5⟩ := C.fresh h
  have oth : ∀ i, m'.hd i = m.hd i := fun i => by unfold M.hd; rw [eh]
  have t1 := turn_takes hd f1
  rw [et] at t1
  have hl' : h < m'.hands.length := by rw [eh]; exact hl
  generalize hy : m.hd h = y at *
  have pr : ∀ (m2 : M), m2.progs = m'.progs → m2.prog h = m.prog h := fun m2 e => by unfold M.prog; rw [e, ep]
  have pg : ∀ (m2 : M) (z : Hd), m2.progs = m'.progs → z.at_ = y.at_ → (m2.prog h)[z.at_]? = some (.push v) := fun m2 z e1 e2 => by rw [pr m2 e1, e2]; exact hd
  -- the second turn
  have h1 : (m'.setH h { y with cell := c }).hd h = { y with cell := c } := M.setH_hd hl'
  have t2 := turn_reads_push (m := m'.setH h { y with cell := c }) (h := h) (v := v) (by rw [h1]; exact pg _ _ rfl rfl) (by rw [h1]; show c ≠ 0; omega) (by rw [h1]; exact f2)
  rw [h1, M.setH_setH] at t2
  -- the third
  have h2 : (m'.setH h { y with cell := c, seen := some (m'.top, m'.count) }).hd h = { y with cell := c, seen := some (m'.top, m'.count) } := M.setH_hd hl'
  have t3 := turn_links (m := m'.setH h { y with cell := c, seen := some (m'.top, m'.count) }) (h := h) (v := v) (s := (m'.top, m'.count)) (by rw [h2]; exact pg _ _ rfl rfl) (by rw [h2]; show c ≠ 0; omega) (by rw [h2]) (by rw [h2]; exact f3)
  rw [h2] at t3
  have e3 : ({ m'.setH h { y with cell := c, seen := some (m'.top, m'.count) } with links := m'.links.set (c - 1) m'.top } : M).setH h { y with cell := c, seen := some (m'.top, m'.count), follow := some m'.top } = ({ m' with links := m'.links.set (c - 1) m'.top } : M).setH h { y with cell := c, seen := some (m'.top, m'.count), follow := some m'.top } := by
    simp [M.setH, List.set_set]
  have t3' : (m'.setH h { y with cell := c, seen := some (m'.top, m'.count) }).turn h = (.links m'.top, ({ m' with links := m'.links.set (c - 1) m'.top } : M).setH h { y with cell := c, seen := some (m'.top, m'.count), follow := some m'.top }) := t3.trans (by rw [← e3]; rfl)
  -- the fourth
  have h3 : (({ m' with links := m'.links.set (c - 1) m'.top } : M).setH h { y with cell := c, seen := some (m'.top, m'.count), follow := some m'.top }).hd h = { y with cell := c, seen := some (m'.top, m'.count), follow := some m'.top } := M.setH_hd hl'
  have t4 := turn_pushed (m := ({ m' with links := m'.links.set (c - 1) m'.top } : M).setH h { y with cell := c, seen := some (m'.top, m'.count), follow := some m'.top }) (h := h) (v := v) (f := m'.top) (by rw [h3]; exact pg _ _ rfl rfl) (by rw [h3]; show c ≠ 0; omega) (by rw [h3]; rfl) (by rw [h3])
  rw [h3] at t4
  generalize hm3 : ({ m' with links := m'.links.set (c - 1) m'.top } : M).setH h { y with cell := c, seen := some (m'.top, m'.count), follow := some m'.top } = m3 at *
  have hl3 : h < (m3.exchd h c).hands.length := by
    show h < m3.hands.length
    rw [← hm3, M.setH_len]
    exact hl'
  have hex : (m3.exchd h c).hd h = m3.hd h := rfl
  have h4 : ((m3.exchd h c).endedH h .done).hd h = (m3.hd h).ended .done := by
    unfold M.endedH
    rw [M.setH_hd hl3]
    rfl
  have ye : (m3.hd h).ended .done = y.ended .done := by
    rw [h3]
    rfl
  have oth4 : ∀ i, i ≠ h → ((m3.exchd h c).endedH h .done).hd i = m.hd i := fun i ne => by
    unfold M.endedH
    rw [M.setH_ne hl3 ne]
    show m3.hd i = m.hd i
    rw [← hm3]
    exact (M.setH_ne (m := ({ m' with links := m'.links.set (c - 1) m'.top } : M)) hl' ne).trans (oth i)
  have L : m3.links = m'.links.set (c - 1) m'.top := by rw [← hm3]; rfl
  have Wt : m3.worths = m'.worths := by rw [← hm3]; rfl
  have Fd : m3.freed = m'.freed := by rw [← hm3]; rfl
  refine ⟨(m3.exchd h c).endedH h .done, c, ?_, ⟨?_, ?_, ?_, ?_, ?_, ?_, ?_, ?_⟩, ?_, ?_, ?_, ?_, oth4⟩
  · refine Does.of t1 (by unfold Tell.good; simp) (by rw [h1, hy]) (Does.of t2 (by unfold Tell.good; simp) ?_ (Does.of t3' (by unfold Tell.good; simp) ?_ (Does.end_ t4 (by unfold Tell.good; simp) ?_)))
    · have g := congrArg (fun z : Hd => z.said.length) h2
      rw [h1]
      exact g
    · have g := congrArg (fun z : Hd => z.said.length) h2
      rw [h3]
      exact g.symm
    · rw [h4]
      show ((m3.hd h).said ++ [Ans.done]).length = _
      rw [List.length_append]
      rfl
  · show chain m3.links c (c :: p)
    rw [L]
    refine ⟨rfl, by omega, ?_⟩
    have e : (m'.links.set (c - 1) m'.top).getD (c - 1) 0 = m'.top := by
      rw [List.getD_eq_getElem?_getD, List.getElem?_set_self (by omega)]
      rfl
    rw [e, etop]
    exact chain_set (by omega) ch c3 fun d hd => by have := (inn d hd).1; omega
  · exact List.nodup_cons.mpr ⟨c3, C.nd⟩
  · intro x hx
    show 1 ≤ x ∧ x ≤ m3.worths.length
    rw [Wt]
    rcases List.mem_cons.mp hx with rfl | hx
    · exact ⟨c1, c2⟩
    · exact inn x hx
  · show m3.links.length = m3.worths.length
    rw [L, Wt, List.length_set]
    exact ll
  · intro x hx
    have hx' : x ∈ m'.freed := by rw [← Fd]; exact hx
    obtain ⟨g1, g2, g3⟩ := fr x hx'
    show 1 ≤ x ∧ x ≤ m3.worths.length ∧ x ∉ c :: p
    rw [Wt]
    refine ⟨g1, g2, fun z => ?_⟩
    rcases List.mem_cons.mp z with rfl | z
    · exact c4 hx'
    · exact g3 z
  · show m3.freed.Nodup
    rw [Fd]
    exact fd
  · intro i
    by_cases e : i = h
    · subst e
      rw [h4]
      exact ended_fresh _ _
    · rw [oth4 i e]
      exact C.fresh i
  · show m3.strayed = false
    rw [← hm3]
    exact es
  · show m3.worths.getD (c - 1) 0 = v
    rw [Wt]
    exact w1
  · intro x hx
    show m3.worths.getD (x - 1) 0 = _
    rw [Wt]
    exact w2 x hx
  · show m3.ends ++ [(h, (m3.hd h).at_)] = _
    rw [h3, ← hm3]
    show m'.ends ++ [(h, y.at_)] = _
    rw [ee]
  · rw [h4]
    exact ye

/-- a pop of an empty pile alone: one turn -/
theorem solo_none {m : M} {h : Nat} (C : Calm m []) (hl : h < m.hands.length) (hd : (m.prog h)[(m.hd h).at_]? = some .pop) :
    ∃ m', Does h 1 m m' ∧ Calm m' [] ∧ m'.worths = m.worths ∧ m'.ends = m.ends ++ [(h, (m.hd h).at_)] ∧ m'.hd h = (m.hd h).ended .non ∧ ∀ i, i ≠ h → m'.hd i = m.hd i := by
  obtain ⟨f1, f2, f3, f4, f5⟩ := C.fresh h
  have t := turn_empty hd f2 C.ch
  have h1 : (({ m with ends := m.ends ++ [(h, (m.hd h).at_)] } : M).endedH h .non).hd h = (m.hd h).ended .non := by
    unfold M.endedH
    exact M.setH_hd hl
  have oth : ∀ i, i ≠ h → (({ m with ends := m.ends ++ [(h, (m.hd h).at_)] } : M).endedH h .non).hd i = m.hd i := fun i ne => by
    unfold M.endedH
    exact M.setH_ne (m := ({ m with ends := m.ends ++ [(h, (m.hd h).at_)] } : M)) hl ne
  refine ⟨_, Does.end_ t (by unfold Tell.good; simp) ?_, ⟨C.ch, C.nd, C.inn, C.ll, C.fr, C.fd, fun i => ?_, C.calm⟩, rfl, rfl, h1, oth⟩
  · rw [h1]
    show ((m.hd h).said ++ [Ans.non]).length = _
    rw [List.length_append]
    rfl
  · by_cases e : i = h
    · subst e
      rw [h1]
      exact ended_fresh _ _
    · rw [oth i e]
      exact C.fresh i
/-- the end of a pop: three turns -/
theorem solo_tail {m : M} {c : Nat} {p : List Nat} {h : Nat} {z : Hd} (C : Calm m (c :: p)) (hl : h < m.hands.length) (hd : (m.prog h)[z.at_]? = some .pop) (z1 : z.seen = some (m.top, m.count)) (z2 : z.cell = 0) (z3 : z.follow = none) (z4 : ¬ (m.rule.named h = true ∧ z.looked = false)) :
    ∃ m', Does h 3 (m.setH h z) m' ∧ Calm m' p ∧ m'.worths = m.worths ∧ m'.ends = m.ends ++ [(h, z.at_)] ∧ m'.hd h = z.ended (.val (m.worths.getD (c - 1) 0)) ∧ ∀ i, i ≠ h → m'.hd i = m.hd i := by
  obtain ⟨et, c0, ch⟩ := C.ch
  have hc := C.inn c List.mem_cons_self
  have h0 : (m.setH h z).hd h = z := M.setH_hd hl
  have t1 := turn_follows (m := m.setH h z) (h := h) (s := (m.top, m.count)) (by rw [h0]; exact hd) (by rw [h0]; exact z1) (by rw [h0]; exact z2) (by rw [h0]; exact z4) (by rw [h0]; exact z3)
  rw [h0, M.setH_setH] at t1
  have t1' : (m.setH h z).turn h = (.follows (m.links.getD (m.top - 1) 0), m.setH h { z with follow := some (m.links.getD (m.top - 1) 0) }) := t1
  have h1 : (m.setH h { z with follow := some (m.links.getD (m.top - 1) 0) }).hd h = { z with follow := some (m.links.getD (m.top - 1) 0) } := M.setH_hd hl
  have t2 := turn_exchanges (m := m.setH h { z with follow := some (m.links.getD (m.top - 1) 0) }) (h := h) (f := m.links.getD (m.top - 1) 0) (by rw [h1]; exact hd) (by rw [h1]; exact z1) (by rw [h1]; exact z2) (by rw [h1]; exact z4) (by rw [h1])
  rw [h1] at t2
  have hst : (m.strayed || m.links.getD (m.top - 1) 0 != m.links.getD (m.top - 1) 0) = false := by rw [C.calm]; simp
  have hl1 : h < (m.setH h { z with follow := some (m.links.getD (m.top - 1) 0) }).hands.length := by rw [M.setH_len]; exact hl
  have t2' : (m.setH h { z with follow := some (m.links.getD (m.top - 1) 0) }).turn h = (.exchanges (m.links.getD (m.top - 1) 0), ({ (m.setH h { z with follow := some (m.links.getD (m.top - 1) 0) }).exchd h (m.links.getD (m.top - 1) 0) with strayed := m.strayed || m.links.getD (m.top - 1) 0 != m.links.getD (m.top - 1) 0 } : M).setH h { z with follow := some (m.links.getD (m.top - 1) 0), cell := m.top }) := t2
  rw [hst] at t2'
  have h2 : (({ (m.setH h { z with follow := some (m.links.getD (m.top - 1) 0) }).exchd h (m.links.getD (m.top - 1) 0) with strayed := false } : M).setH h { z with follow := some (m.links.getD (m.top - 1) 0), cell := m.top }).hd h = { z with follow := some (m.links.getD (m.top - 1) 0), cell := m.top } := M.setH_hd hl1
  have oth2 : ∀ i, i ≠ h → (({ (m.setH h { z with follow := some (m.links.getD (m.top - 1) 0) }).exchd h (m.links.getD (m.top - 1) 0) with strayed := false } : M).setH h { z with follow := some (m.links.getD (m.top - 1) 0), cell := m.top }).hd i = m.hd i := fun i ne => by
    have e1 := M.setH_ne (m := ({ (m.setH h { z with follow := some (m.links.getD (m.top - 1) 0) }).exchd h (m.links.getD (m.top - 1) 0) with strayed := false } : M)) (x := { z with follow := some (m.links.getD (m.top - 1) 0), cell := m.top }) hl1 ne
    exact e1.trans (M.setH_ne hl ne)
  have he : (m.setH h { z with follow := some (m.links.getD (m.top - 1) 0) }).ends ++ [(h, ((m.setH h { z with follow := some (m.links.getD (m.top - 1) 0) }).hd h).at_)] = m.ends ++ [(h, z.at_)] := by rw [h1]; rfl
  have g2 : (({ (m.setH h { z with follow := some (m.links.getD (m.top - 1) 0) }).exchd h (m.links.getD (m.top - 1) 0) with strayed := false } : M).setH h { z with follow := some (m.links.getD (m.top - 1) 0), cell := m.top }).ends = m.ends ++ [(h, z.at_)] := he
  generalize hm2 : (({ (m.setH h { z with follow := some (m.links.getD (m.top - 1) 0) }).exchd h (m.links.getD (m.top - 1) 0) with strayed := false } : M).setH h { z with follow := some (m.links.getD (m.top - 1) 0), cell := m.top }) = m2 at *
  have pr : m2.prog h = m.prog h := by rw [← hm2]; rfl
  have W : m2.worths = m.worths := by rw [← hm2]; rfl
  have Lk : m2.links = m.links := by rw [← hm2]; rfl
  have Tp : m2.top = m.links.getD (m.top - 1) 0 := by rw [← hm2]; rfl
  have Fd : m2.freed = m.freed := by rw [← hm2]; rfl
  have St : m2.strayed = false := by rw [← hm2]; rfl
  have hl2 : h < m2.hands.length := by
    rw [← hm2, M.setH_len]
    exact hl1
  have t3 := turn_popped (m := m2) (h := h) (s := (m.top, m.count)) (by rw [h2, pr]; exact hd) (by rw [h2]; exact z1) (by rw [h2]; show m.top ≠ 0; omega)
  have t3' : m2.turn h = (.ends (.val (m.worths.getD (m.top - 1) 0)), ({ m2 with freed := m2.freed ++ [m.top] } : M).endedH h (.val (m.worths.getD (m.top - 1) 0))) := by
    have e : (m2.hd h).cell = m.top := by rw [h2]
    rw [t3, e, W]
  have h3 : (({ m2 with freed := m2.freed ++ [m.top] } : M).endedH h (.val (m.worths.getD (m.top - 1) 0))).hd h = (m2.hd h).ended (.val (m.worths.getD (m.top - 1) 0)) := by
    unfold M.endedH
    exact M.setH_hd hl2
  have oth3 : ∀ i, i ≠ h → (({ m2 with freed := m2.freed ++ [m.top] } : M).endedH h (.val (m.worths.getD (m.top - 1) 0))).hd i = m.hd i := fun i ne => by
    unfold M.endedH
    exact (M.setH_ne (m := ({ m2 with freed := m2.freed ++ [m.top] } : M)) hl2 ne).trans (oth2 i ne)
  have nd := List.nodup_cons.mp C.nd
  refine ⟨_, Does.of t1' (by unfold Tell.good; simp) ?_ (Does.of t2' (by unfold Tell.good; simp) ?_ (Does.end_ t3' (by unfold Tell.good; simp) ?_)), ⟨?_, nd.2, ?_, ?_, ?_, ?_, fun i => ?_, St⟩, W, g2, ?_, oth3⟩
  · rw [h1, h0]
  · rw [h2, h1]
  · rw [h3]
    show ((m2.hd h).said ++ [_]).length = _
    rw [List.length_append]
    rfl
  · show chain m2.links m2.top p
    rw [Lk, Tp, et]
    exact ch
  · intro x hx
    show 1 ≤ x ∧ x ≤ m2.worths.length
    rw [W]
    exact C.inn x (List.mem_cons_of_mem _ hx)
  · show m2.links.length = m2.worths.length
    rw [Lk, W]
    exact C.ll
  · intro x hx
    have hx' : x ∈ m.freed ++ [m.top] := by rw [← Fd]; exact hx
    show 1 ≤ x ∧ x ≤ m2.worths.length ∧ _
    rw [W]
    rcases List.mem_append.mp hx' with hx | hx
    · obtain ⟨a, b, d⟩ := C.fr x hx
      exact ⟨a, b, fun z => d (List.mem_cons_of_mem _ z)⟩
    · have : x = m.top := by simpa using hx
      rw [this, et]
      exact ⟨hc.1, hc.2, nd.1⟩
  · show (m2.freed ++ [m.top]).Nodup
    rw [Fd, List.nodup_append]
    refine ⟨C.fd, by simp, fun a ha b hb => ?_⟩
    have : b = m.top := by simpa using hb
    rw [this, et]
    exact fun z => (C.fr a ha).2.2 (z ▸ List.mem_cons_self)
  · by_cases e : i = h
    · subst e
      rw [h3]
      exact ended_fresh _ _
    · rw [oth3 i e]
      exact C.fresh i
  · rw [h3, h2, et]
    rfl

/-- a pop alone: four turns, or six where the rule has the hand mark -/
theorem solo_pop {m : M} {c : Nat} {p : List Nat} {h : Nat} (C : Calm m (c :: p)) (hl : h < m.hands.length) (hd : (m.prog h)[(m.hd h).at_]? = some .pop) :
    ∃ n m', n ≤ 9 ∧ Does h n m m' ∧ Calm m' p ∧ m'.worths = m.worths ∧ m'.ends = m.ends ++ [(h, (m.hd h).at_)] ∧ m'.hd h = (m.hd h).ended (.val (m.worths.getD (c - 1) 0)) ∧ ∀ i, i ≠ h → m'.hd i = m.hd i := by
  obtain ⟨f1, f2, f3, f4, f5⟩ := C.fresh h
  obtain ⟨et, c0, _⟩ := C.ch
  have t1 := turn_reads_pop hd f2 (by omega)
  generalize hy : m.hd h = y at *
  have h1 : (m.setH h { y with seen := some (m.top, m.count) }).hd h = { y with seen := some (m.top, m.count) } := M.setH_hd hl
  by_cases hn : m.rule.named h = true
  · have t2 := turn_marks (m := m.setH h { y with seen := some (m.top, m.count) }) (h := h) (s := (m.top, m.count)) (by rw [h1]; exact hd) (by rw [h1]) (by rw [h1]; exact f1) hn (by rw [h1]; exact f5) (by rw [h1]; show y.mark ≠ m.top; omega)
    rw [h1, M.setH_setH] at t2
    have t2' : (m.setH h { y with seen := some (m.top, m.count) }).turn h = (.marks m.top, m.setH h { y with seen := some (m.top, m.count), mark := m.top }) := t2
    have h2 : (m.setH h { y with seen := some (m.top, m.count), mark := m.top }).hd h = { y with seen := some (m.top, m.count), mark := m.top } := M.setH_hd hl
    have t3 := turn_looks (m := m.setH h { y with seen := some (m.top, m.count), mark := m.top }) (h := h) (s := (m.top, m.count)) (by rw [h2]; exact hd) (by rw [h2]) (by rw [h2]; exact f1) hn (by rw [h2]; exact f5) (by rw [h2]) rfl
    rw [h2, M.setH_setH] at t3
    have t3' : (m.setH h { y with seen := some (m.top, m.count), mark := m.top }).turn h = (.looks true, m.setH h { y with seen := some (m.top, m.count), mark := m.top, looked := true }) := t3
    have h3 : (m.setH h { y with seen := some (m.top, m.count), mark := m.top, looked := true }).hd h = { y with seen := some (m.top, m.count), mark := m.top, looked := true } := M.setH_hd hl
    obtain ⟨m', d, g1, g2, g3, g4, g5⟩ := solo_tail (z := { y with seen := some (m.top, m.count), mark := m.top, looked := true }) C hl hd rfl f1 f3 (fun z => by cases z.2)
    refine ⟨6, m', by decide, Does.of t1 (by unfold Tell.good; simp) (by rw [h1, hy]) (Does.of t2' (by unfold Tell.good; simp) (by rw [h2, h1]) (Does.of t3' (by unfold Tell.good; simp) (by rw [h3, h2]) d)), g1, g2, g3, g4, g5⟩
  · obtain ⟨m', d, g1, g2, g3, g4, g5⟩ := solo_tail (z := { y with seen := some (m.top, m.count) }) C hl hd rfl f1 f3 (fun z => hn z.1)
    exact ⟨4, m', by decide, Does.of t1 (by unfold Tell.good; simp) (by rw [h1, hy]) d, g1, g2, g3, g4, g5⟩

/-- the pile at first -/
def pile0 : Nat → List Nat
  | 0 => []
  | n + 1 => (n + 1) :: pile0 n
theorem pile0_in : ∀ (n : Nat) {x : Nat}, x ∈ pile0 n → 1 ≤ x ∧ x ≤ n
  | 0, x, h => by cases h
  | n + 1, x, h => by
    rcases List.mem_cons.mp h with rfl | h
    · omega
    · have := pile0_in n h
      omega
theorem pile0_nodup : ∀ n : Nat, (pile0 n).Nodup
  | 0 => List.nodup_nil
  | n + 1 => List.nodup_cons.mpr ⟨fun h => by have := pile0_in n h; omega, pile0_nodup n⟩
theorem pile0_chain {N : Nat} : ∀ n : Nat, n ≤ N → chain (List.range N) n (pile0 n)
  | 0, _ => rfl
  | n + 1, h => by
    refine ⟨rfl, by omega, ?_⟩
    have e : (List.range N).getD (n + 1 - 1) 0 = n := by
      rw [List.getD_eq_getElem?_getD, Nat.add_sub_cancel, List.getElem?_range (by omega)]
      rfl
    rw [e]
    exact pile0_chain n (by omega)
theorem pile0_values (values : List Int) : ∀ n : Nat, n ≤ values.length → (pile0 n).map (fun x => values.getD (x - 1) 0) = (values.take n).reverse
  | 0, _ => rfl
  | n + 1, h => by
    have hn : values[n]? = some (values[n]'(by omega)) := List.getElem?_eq_getElem _
    have e : values.take (n + 1) = values.take n ++ [values[n]'(by omega)] := by
      rw [List.take_succ, hn]
      rfl
    rw [e, List.reverse_append]
    show values.getD (n + 1 - 1) 0 :: _ = _
    rw [pile0_values values n (by omega), Nat.add_sub_cancel, List.getD_eq_getElem?_getD, hn]
    rfl
theorem begin_calm (values : List Int) (ps : List (List Deed)) (r : Rule) : Calm (M.begin_ values ps r) (pile0 values.length) ∧ (M.begin_ values ps r).pileValues = values.reverse := by
  have C : Calm (M.begin_ values ps r) (pile0 values.length) := by
    refine ⟨pile0_chain _ (Nat.le_refl _), pile0_nodup _, fun c h => pile0_in _ h, ?_, fun c h => (by cases h), List.nodup_nil, fun h => ?_, rfl⟩
    · show (List.range values.length).length = values.length
      rw [List.length_range]
    · have e : (M.begin_ values ps r).hd h = {} := by
        unfold M.hd M.begin_
        simp only [List.getD_eq_getElem?_getD, List.getElem?_map]
        cases ps[h]? <;> rfl
      rw [e]
      exact ⟨rfl, rfl, rfl, rfl, rfl⟩
  refine ⟨C, ?_⟩
  rw [C.values]
  show (pile0 values.length).map (fun x => values.getD (x - 1) 0) = _
  rw [pile0_values values _ (Nat.le_refl _), List.take_length]

theorem serial_snoc (values : List Int) (ds : List Deed) (d : Deed) : serial values (ds ++ [d]) = serialStep (serial values ds) d := by
  unfold serial
  rw [List.foldl_append]
  rfl
/-- a whole deed of one hand, the others wait: what serial says -/
theorem solo {m : M} {p : List Nat} {h : Nat} {values : List Int} {ds : List Deed} {d : Deed} (C : Calm m p) (V : m.pileValues = (serial values ds).2.reverse) (hl : h < m.hands.length) (hd : (m.prog h)[(m.hd h).at_]? = some d) :
    ∃ n m' p' a, n ≤ 9 ∧ Does h n m m' ∧ Calm m' p' ∧ m'.pileValues = (serial values (ds ++ [d])).2.reverse ∧ (serial values (ds ++ [d])).1 = (serial values ds).1 ++ [a] ∧ m'.ends = m.ends ++ [(h, (m.hd h).at_)] ∧ m'.hd h = (m.hd h).ended a ∧ ∀ i, i ≠ h → m'.hd i = m.hd i := by
  rw [serial_snoc]
  rw [C.values] at V
  cases d with
  | push v =>
    obtain ⟨m', c, D, C', w1, w2, e, e1, e2⟩ := solo_push C hl hd
    refine ⟨4, m', c :: p, .done, by decide, D, C', ?_, rfl, e, e1, e2⟩
    rw [C'.values]
    show m'.worths.getD (c - 1) 0 :: p.map _ = ((serial values ds).2 ++ [v]).reverse
    rw [w1, List.reverse_append, ← V]
    show v :: _ = v :: _
    congr 1
    exact List.map_congr_left fun x hx => w2 x hx
  | pop =>
    cases p with
    | nil =>
      obtain ⟨m', D, C', w, e, e1, e2⟩ := solo_none C hl hd
      have z : (serial values ds).2 = [] := by
        have : (serial values ds).2.reverse = [] := V.symm
        simpa using this
      refine ⟨1, m', [], .non, by decide, D, C', ?_, ?_, e, e1, e2⟩
      · rw [C'.values]
        unfold serialStep
        rw [z]
        rfl
      · unfold serialStep
        rw [z]
        rfl
    | cons c q =>
      obtain ⟨n, m', n9, D, C', w, e, e1, e2⟩ := solo_pop C hl hd
      have z : (serial values ds).2 = (q.map fun x => m.worths.getD (x - 1) 0).reverse ++ [m.worths.getD (c - 1) 0] := by
        have := congrArg List.reverse V
        rw [List.reverse_reverse] at this
        rw [← this]
        simp
      refine ⟨n, m', q, .val (m.worths.getD (c - 1) 0), n9, D, C', ?_, ?_, e, e1, e2⟩
      · rw [C'.values, w]
        unfold serialStep
        rw [z]
        simp
      · unfold serialStep
        rw [z]
        simp
end SS

set_option linter.all false
/-! A turn's ways, one by one. -/
namespace SS
/-- what a turn of hand h may tell and leave -/
inductive Move (m : M) (h : Nat) : Tell → M → Prop where
  | rests (hd : (m.prog h)[(m.hd h).at_]? = none) : Move m h .rests m
  | takesF (v : Int) (c : Nat) (hd : (m.prog h)[(m.hd h).at_]? = some (.push v)) (hc : (m.hd h).cell = 0) (hp : pick m.rule m.marked m.freed = some c) :
      Move m h (.takes c) (({ m with freed := m.freed.erase c, worths := m.worths.set (c - 1) v } : M).setH h { m.hd h with cell := c })
  | takesN (v : Int) (hd : (m.prog h)[(m.hd h).at_]? = some (.push v)) (hc : (m.hd h).cell = 0) (hp : pick m.rule m.marked m.freed = none) :
      Move m h (.takes (m.worths.length + 1)) (({ m with worths := m.worths ++ [v], links := m.links ++ [0] } : M).setH h { m.hd h with cell := m.worths.length + 1 })
  | readsQ (v : Int) (hd : (m.prog h)[(m.hd h).at_]? = some (.push v)) (hc : (m.hd h).cell ≠ 0) (hs : (m.hd h).seen = none) :
      Move m h (.reads m.top) (m.setH h { m.hd h with seen := some (m.top, m.count) })
  | readsP (hd : (m.prog h)[(m.hd h).at_]? = some .pop) (hs : (m.hd h).seen = none) (ht : m.top ≠ 0) :
      Move m h (.reads m.top) (m.setH h { m.hd h with seen := some (m.top, m.count) })
  | empty (hd : (m.prog h)[(m.hd h).at_]? = some .pop) (hs : (m.hd h).seen = none) (ht : m.top = 0) :
      Move m h (.ends .non) (({ m with ends := m.ends ++ [(h, (m.hd h).at_)] } : M).setH h ((m.hd h).ended .non))
  | links (v : Int) (s : Nat × Nat) (hd : (m.prog h)[(m.hd h).at_]? = some (.push v)) (hc : (m.hd h).cell ≠ 0) (hs : (m.hd h).seen = some s) (hf : (m.hd h).follow = none) :
      Move m h (.links s.1) (({ m with links := m.links.set ((m.hd h).cell - 1) s.1 } : M).setH h { m.hd h with follow := some s.1 })
  | pushed (v : Int) (f : Nat) (hd : (m.prog h)[(m.hd h).at_]? = some (.push v)) (hc : (m.hd h).cell ≠ 0) (hs : (m.hd h).seen = some (m.top, m.count)) (hf : (m.hd h).follow = some f) :
      Move m h (.ends .done) ((m.exchd h (m.hd h).cell).setH h ((m.hd h).ended .done))
  | missQ (v : Int) (s : Nat × Nat) (f : Nat) (hd : (m.prog h)[(m.hd h).at_]? = some (.push v)) (hc : (m.hd h).cell ≠ 0) (hs : (m.hd h).seen = some s) (hf : (m.hd h).follow = some f) (hn : s ≠ (m.top, m.count)) :
      Move m h .misses (m.setH h (m.hd h).forgot)
  | popped (s : Nat × Nat) (hd : (m.prog h)[(m.hd h).at_]? = some .pop) (hs : (m.hd h).seen = some s) (hc : (m.hd h).cell ≠ 0) :
      Move m h (.ends (.val (m.worths.getD ((m.hd h).cell - 1) 0))) (({ m with freed := m.freed ++ [(m.hd h).cell] } : M).setH h ((m.hd h).ended (.val (m.worths.getD ((m.hd h).cell - 1) 0))))
  | marks (s : Nat × Nat) (hd : (m.prog h)[(m.hd h).at_]? = some .pop) (hs : (m.hd h).seen = some s) (hc : (m.hd h).cell = 0) (hn : m.rule.named h = true) (hl : (m.hd h).looked = false) (hm : (m.hd h).mark ≠ s.1) :
      Move m h (.marks s.1) (m.setH h { m.hd h with mark := s.1 })
  | looksF (s : Nat × Nat) (hd : (m.prog h)[(m.hd h).at_]? = some .pop) (hs : (m.hd h).seen = some s) (hc : (m.hd h).cell = 0) (hn : m.rule.named h = true) (hl : (m.hd h).looked = false) (hm : (m.hd h).mark = s.1) (ht : m.top ≠ s.1) :
      Move m h (.looks false) (m.setH h (m.hd h).forgot)
  | looksT (s : Nat × Nat) (hd : (m.prog h)[(m.hd h).at_]? = some .pop) (hs : (m.hd h).seen = some s) (hc : (m.hd h).cell = 0) (hn : m.rule.named h = true) (hl : (m.hd h).looked = false) (hm : (m.hd h).mark = s.1) (ht : m.top = s.1) :
      Move m h (.looks true) (m.setH h { m.hd h with looked := true })
  | follows (s : Nat × Nat) (hd : (m.prog h)[(m.hd h).at_]? = some .pop) (hs : (m.hd h).seen = some s) (hc : (m.hd h).cell = 0) (hn : ¬ (m.rule.named h = true ∧ (m.hd h).looked = false)) (hf : (m.hd h).follow = none) :
      Move m h (.follows (m.links.getD (s.1 - 1) 0)) (m.setH h { m.hd h with follow := some (m.links.getD (s.1 - 1) 0) })
  | exchanges (f : Nat) (hd : (m.prog h)[(m.hd h).at_]? = some .pop) (hs : (m.hd h).seen = some (m.top, m.count)) (hc : (m.hd h).cell = 0) (hn : ¬ (m.rule.named h = true ∧ (m.hd h).looked = false)) (hf : (m.hd h).follow = some f) :
      Move m h (.exchanges f) (({ m.exchd h f with strayed := m.strayed || m.links.getD (m.top - 1) 0 != f } : M).setH h { m.hd h with cell := m.top })
  | missP (s : Nat × Nat) (f : Nat) (hd : (m.prog h)[(m.hd h).at_]? = some .pop) (hs : (m.hd h).seen = some s) (hc : (m.hd h).cell = 0) (hn : ¬ (m.rule.named h = true ∧ (m.hd h).looked = false)) (hf : (m.hd h).follow = some f) (hx : s ≠ (m.top, m.count)) :
      Move m h .misses (m.setH h (m.hd h).forgot)
theorem Move.of {m : M} {h : Nat} {t t' : Tell} {m1 m1' : M} (v : Move m h t m1) (e1 : t' = t) (e2 : m1' = m1) : Move m h t' m1' := by
  rw [e1, e2]
  exact v
theorem fits_of {m : M} {h : Nat} {s : Nat × Nat} (hs : (m.hd h).seen = some s) : m.fits h = decide (s = (m.top, m.count)) := by
  unfold M.fits
  rw [hs]
  exact decide_eq_decide.mpr ⟨fun e => Option.some.inj e, fun e => by rw [e]⟩
theorem move (m : M) (h : Nat) : Move m h (m.turn h).1 (m.step h) := by
  unfold M.step
  cases hd : (m.prog h)[(m.hd h).at_]? with
  | none =>
    have e : m.turn h = (.rests, m) := by
      unfold M.turn
      rw [hd]
    rw [e]
    exact .rests hd
  | some d =>
    cases d with
    | push v =>
      by_cases hc : (m.hd h).cell = 0
      · rw [turn_takes hd hc]
        cases hp : pick m.rule m.marked m.freed with
        | some c =>
          rw [taken_some hp]
          exact .takesF v c hd hc hp
        | none =>
          rw [taken_none hp]
          exact .takesN v hd hc hp
      · cases hs : (m.hd h).seen with
        | none =>
          rw [turn_reads_push hd hc hs]
          exact .readsQ v hd hc hs
        | some s =>
          cases hf : (m.hd h).follow with
          | none =>
            rw [turn_links hd hc hs hf]
            exact .links v s hd hc hs hf
          | some f =>
            by_cases hx : s = (m.top, m.count)
            · subst hx
              rw [turn_pushed hd hc hs hf]
              exact .pushed v f hd hc hs hf
            · have e : m.turn h = (.misses, m.setH h (m.hd h).forgot) := by
                rw [turn_push hd hc hs]
                unfold M.push
                rw [hf, fits_of hs, decide_eq_false hx]
                rfl
              rw [e]
              exact .missQ v s f hd hc hs hf hx
    | pop =>
      cases hs : (m.hd h).seen with
      | none =>
        by_cases ht : m.top = 0
        · rw [turn_empty hd hs ht]
          exact .empty hd hs ht
        · rw [turn_reads_pop hd hs ht]
          exact .readsP hd hs ht
      | some s =>
        by_cases hc : (m.hd h).cell = 0
        · by_cases hn : m.rule.named h = true ∧ (m.hd h).looked = false
          · by_cases hm : (m.hd h).mark = s.1
            · by_cases ht : m.top = s.1
              · rw [turn_looks hd hs hc hn.1 hn.2 hm ht]
                exact .looksT s hd hs hc hn.1 hn.2 hm ht
              · have e : m.turn h = (.looks false, m.setH h (m.hd h).forgot) := by
                  rw [turn_pop hd hs]
                  unfold M.pop M.guard
                  have e' : ¬ ((m.hd h).cell ≠ 0) := fun z => z hc
                  rw [if_neg e', if_pos hn, if_neg (fun z => z hm), if_pos ht]
                rw [e]
                exact .looksF s hd hs hc hn.1 hn.2 hm ht
            · rw [turn_marks hd hs hc hn.1 hn.2 hm]
              exact .marks s hd hs hc hn.1 hn.2 hm
          · cases hf : (m.hd h).follow with
            | none =>
              rw [turn_follows hd hs hc hn hf]
              exact .follows s hd hs hc hn hf
            | some f =>
              by_cases hx : s = (m.top, m.count)
              · subst hx
                rw [turn_exchanges hd hs hc hn hf]
                exact .exchanges f hd hs hc hn hf
              · have e : m.turn h = (.misses, m.setH h (m.hd h).forgot) := by
                  rw [turn_pop hd hs]
                  have e' : ¬ ((m.hd h).cell ≠ 0) := fun z => z hc
                  unfold M.pop
                  rw [if_neg e', if_neg hn]
                  have hft : m.fits h = false := by rw [fits_of hs, decide_eq_false hx]
                  cases ef : (m.hd h).follow with
                  | none =>
                    rw [hf] at ef
                    cases ef
                  | some g =>
                    simp only [hft, Bool.false_eq_true, if_false]
                rw [e]
                exact .missP s f hd hs hc hn hf hx
        · rw [turn_popped hd hs hc]
          exact .popped s hd hs hc
end SS

set_option linter.all false
/-! As long as nothing is stale: the pile, the cells, the answers are those of the decided deeds, one after another. -/
namespace SS
def M.deeds (m : M) : List Deed := m.ends.map fun e => (m.prog e.1).getD e.2 .pop
def M.wor (m : M) (c : Nat) : Int := m.worths.getD (c - 1) 0
def M.pend (m : M) (j : Nat) : List Ans :=
  if (m.prog j)[(m.hd j).at_]? = some .pop ∧ (m.hd j).cell ≠ 0 then [.val (m.wor (m.hd j).cell)] else []
def M.full (m : M) (j : Nat) : List Ans := (m.hd j).said ++ m.pend j
/-- the answers of a hand -/
def ansOf (j : Nat) (es : List (Nat × Nat)) (as : List Ans) : List Ans := ((es.zip as).filter fun e => e.1.1 == j).map (·.2)
structure Lin (values : List Int) (m : M) (p : List Nat) : Prop where
  ll : m.links.length = m.worths.length
  ch : chain m.links m.top p
  nd : p.Nodup
  fd : m.freed.Nodup
  pin : ∀ c ∈ p, 1 ≤ c ∧ c ≤ m.worths.length
  fin : ∀ c ∈ m.freed, 1 ≤ c ∧ c ≤ m.worths.length ∧ c ∉ p
  cin : ∀ j, (m.hd j).cell ≠ 0 → (m.hd j).cell ≤ m.worths.length ∧ (m.hd j).cell ∉ p ∧ (m.hd j).cell ∉ m.freed
  cne : ∀ i j, i ≠ j → (m.hd i).cell ≠ 0 → (m.hd i).cell ≠ (m.hd j).cell
  cov : ∀ c, 1 ≤ c → c ≤ m.worths.length → c ∈ p ∨ c ∈ m.freed ∨ ∃ j, (m.hd j).cell = c
  wrt : ∀ j v, (m.prog j)[(m.hd j).at_]? = some (.push v) → (m.hd j).cell ≠ 0 → m.wor (m.hd j).cell = v
  lnk : ∀ j v f, (m.prog j)[(m.hd j).at_]? = some (.push v) → (m.hd j).follow = some f → (m.hd j).cell ≠ 0 ∧ m.links.getD ((m.hd j).cell - 1) 0 = f ∧ ∃ c, (m.hd j).seen = some (f, c)
  vals : p.map m.wor = (serial values m.deeds).2.reverse
  ord : ∀ j, m.ends.filter (fun e => e.1 == j) = (List.range (decd (m.prog j) (m.hd j))).map fun k => (j, k)
  ans : ∀ j, ansOf j m.ends (serial values m.deeds).1 = m.full j
theorem getD_set_ne {α : Type} {l : List α} {i k : Nat} {a d : α} (n : i ≠ k) : (l.set i a).getD k d = l.getD k d := by
  simp only [List.getD_eq_getElem?_getD, List.getElem?_set]
  rw [if_neg n]
theorem getD_set_self {α : Type} {l : List α} {i : Nat} {a d : α} (h : i < l.length) : (l.set i a).getD i d = a := by
  rw [List.getD_eq_getElem?_getD, List.getElem?_set_self h]
  rfl
theorem getD_app {α : Type} {l l' : List α} {i : Nat} {d : α} (h : i < l.length) : (l ++ l').getD i d = l.getD i d := by
  simp only [List.getD_eq_getElem?_getD]
  rw [List.getElem?_append_left h]
theorem serial_len1 (values : List Int) (ds : List Deed) : (serial values ds).1.length = ds.length := by
  have := (serial_len ds ([], values)).1
  unfold serial
  simpa using this
theorem ansOf_snoc {j : Nat} {es : List (Nat × Nat)} {as : List Ans} {e : Nat × Nat} {a : Ans} (h : es.length = as.length) : ansOf j (es ++ [e]) (as ++ [a]) = ansOf j es as ++ if e.1 = j then [a] else [] := by
  unfold ansOf
  rw [List.zip_append h, List.filter_append, List.map_append]
  congr 1
  by_cases e0 : e.1 = j
  · rw [if_pos e0]
    have : (e.1 == j) = true := beq_iff_eq.mpr e0
    simp [this]
  · rw [if_neg e0]
    have : (e.1 == j) = false := beq_eq_false_iff_ne.mpr e0
    simp [this]
theorem ord_snoc {es : List (Nat × Nat)} {d d' : Nat → Nat} {h at_ : Nat} (o : ∀ j, es.filter (fun e => e.1 == j) = (List.range (d j)).map fun k => (j, k)) (e1 : d h = at_) (e2 : d' h = at_ + 1) (e3 : ∀ j, j ≠ h → d' j = d j) :
    ∀ j, (es ++ [(h, at_)]).filter (fun e => e.1 == j) = (List.range (d' j)).map fun k => (j, k) := by
  intro j
  rw [List.filter_append, o j]
  by_cases e : j = h
  · subst e
    rw [e2, e1, List.range_succ, List.map_append]
    simp
  · have : (h == j) = false := beq_eq_false_iff_ne.mpr fun z => e z.symm
    rw [e3 j e]
    simp [this]
theorem decd_push {p : List Deed} {x : Hd} {v : Int} (h : p[x.at_]? = some (.push v)) : decd p x = x.at_ := by
  unfold decd
  rw [h, if_neg (fun z => by cases z.1)]
  rfl
theorem decd_zero {p : List Deed} {x : Hd} (h : x.cell = 0) : decd p x = x.at_ := by
  unfold decd
  rw [if_neg (fun z => z.2 h)]
  rfl
theorem decd_pop {p : List Deed} {x : Hd} (h : p[x.at_]? = some .pop) (hc : x.cell ≠ 0) : decd p x = x.at_ + 1 := by
  unfold decd
  rw [if_pos ⟨h, hc⟩]
theorem decd_eq {p : List Deed} {x y : Hd} (h1 : x.at_ = y.at_) (h2 : x.cell = y.cell) : decd p x = decd p y := by
  unfold decd
  rw [h1, h2]
theorem pend_zero {m : M} {j : Nat} (h : (m.hd j).cell = 0) : m.pend j = [] := by
  unfold M.pend
  rw [if_neg (fun z => z.2 h)]
theorem pend_push {m : M} {j : Nat} {v : Int} (h : (m.prog j)[(m.hd j).at_]? = some (.push v)) : m.pend j = [] := by
  unfold M.pend
  rw [if_neg (fun z => by rw [h] at z; cases z.1)]
theorem pend_pop {m : M} {j : Nat} (h : (m.prog j)[(m.hd j).at_]? = some .pop) (hc : (m.hd j).cell ≠ 0) : m.pend j = [.val (m.wor (m.hd j).cell)] := by
  unfold M.pend
  rw [if_pos ⟨h, hc⟩]
theorem pend_eq {m m' : M} {j : Nat} (hp : m'.prog j = m.prog j) (h1 : (m'.hd j).at_ = (m.hd j).at_) (h2 : (m'.hd j).cell = (m.hd j).cell) (h3 : (m.hd j).cell ≠ 0 → m'.wor (m.hd j).cell = m.wor (m.hd j).cell) : m'.pend j = m.pend j := by
  unfold M.pend
  rw [hp, h1, h2]
  by_cases c : (m.hd j).cell = 0
  · rw [if_neg (fun z => z.2 c), if_neg (fun z => z.2 c)]
  · rw [h3 c]
theorem set_hd {m m1 : M} {h : Nat} {x : Hd} (e : m1.hands = m.hands) (hl : h < m.hands.length) (j : Nat) : (m1.setH h x).hd j = if j = h then x else m.hd j := by
  rw [M.hd_setH (by rw [e]; exact hl)]
  unfold M.hd
  rw [e]
theorem set_hh {m m1 : M} {h : Nat} {x : Hd} (e : m1.hands = m.hands) (hl : h < m.hands.length) : (m1.setH h x).hd h = x := by rw [set_hd e hl, if_pos rfl]
theorem set_hn {m m1 : M} {h : Nat} {x : Hd} (e : m1.hands = m.hands) (hl : h < m.hands.length) {j : Nat} (n : j ≠ h) : (m1.setH h x).hd j = m.hd j := by rw [set_hd e hl, if_neg n]
section
variable {values : List Int} {m : M} {p : List Nat} {h : Nat}
/-- what a hand has read, follows, marks is no matter -/
theorem Lin.quiet (L : Lin values m p) (hl : h < m.hands.length) (x : Hd) (ea : x.at_ = (m.hd h).at_) (ec : x.cell = (m.hd h).cell) (es : x.said = (m.hd h).said)
    (lk : ∀ v f, (m.prog h)[(m.hd h).at_]? = some (.push v) → x.follow = some f → (m.hd h).cell ≠ 0 ∧ m.links.getD ((m.hd h).cell - 1) 0 = f ∧ ∃ c, x.seen = some (f, c)) : Lin values (m.setH h x) p := by
  have A : ∀ j, ((m.setH h x).hd j).at_ = (m.hd j).at_ := fun j => by
    rw [set_hd rfl hl]
    split
    · next e => rw [e]; exact ea
    · rfl
  have C : ∀ j, ((m.setH h x).hd j).cell = (m.hd j).cell := fun j => by
    rw [set_hd rfl hl]
    split
    · next e => rw [e]; exact ec
    · rfl
  have S : ∀ j, ((m.setH h x).hd j).said = (m.hd j).said := fun j => by
    rw [set_hd rfl hl]
    split
    · next e => rw [e]; exact es
    · rfl
  refine ⟨L.ll, L.ch, L.nd, L.fd, L.pin, L.fin, fun j => by rw [C j]; exact L.cin j, fun i j n => by rw [C i, C j]; exact L.cne i j n, fun c h1 h2 => ?_, fun j v => by rw [A j, C j]; exact L.wrt j v, fun j v f hd hf => ?_, L.vals, fun j => ?_, fun j => ?_⟩
  · rcases L.cov c h1 h2 with z | z | ⟨j, z⟩
    · exact .inl z
    · exact .inr (.inl z)
    · exact .inr (.inr ⟨j, by rw [C j]; exact z⟩)
  · rw [A j] at hd
    rw [C j]
    by_cases e : j = h
    · subst e
      rw [set_hh rfl hl] at hf ⊢
      exact lk v f hd hf
    · rw [set_hn rfl hl e] at hf ⊢
      exact L.lnk j v f hd hf
  · have : decd ((m.setH h x).prog j) ((m.setH h x).hd j) = decd (m.prog j) (m.hd j) := decd_eq (A j) (C j)
    rw [this]
    exact L.ord j
  · have : (m.setH h x).full j = m.full j := by
      unfold M.full
      rw [S j, pend_eq (m := m) (m' := m.setH h x) rfl (A j) (C j) fun _ => rfl]
    rw [this]
    exact L.ans j
theorem Lin.linked (L : Lin values m p) (hl : h < m.hands.length) {v : Int} {s : Nat × Nat} (hd : (m.prog h)[(m.hd h).at_]? = some (.push v)) (hc : (m.hd h).cell ≠ 0) (hs : (m.hd h).seen = some s) :
    Lin values (({ m with links := m.links.set ((m.hd h).cell - 1) s.1 } : M).setH h { m.hd h with follow := some s.1 }) p := by
  obtain ⟨c1, c2, c3⟩ := L.cin h hc
  generalize hm1 : ({ m with links := m.links.set ((m.hd h).cell - 1) s.1 } : M) = m1
  have eh : m1.hands = m.hands := by rw [← hm1]
  have ek : m1.links = m.links.set ((m.hd h).cell - 1) s.1 := by rw [← hm1]
  have L1 : Lin values m1 p := by
    have e : ∀ j, m1.hd j = m.hd j := fun j => by unfold M.hd; rw [eh]
    have hl2 := L.ll
    refine ⟨by rw [ek, List.length_set, ← hm1]; exact hl2, by rw [ek, ← hm1]; exact chain_set hc L.ch c2 fun d hd => by have := (L.pin d hd).1; omega, L.nd, by rw [← hm1]; exact L.fd, by rw [← hm1]; exact L.pin, by rw [← hm1]; exact L.fin, by rw [← hm1]; exact L.cin, by rw [← hm1]; exact L.cne, by rw [← hm1]; exact L.cov, by rw [← hm1]; exact L.wrt, ?_, by rw [← hm1]; exact L.vals, by rw [← hm1]; exact L.ord, by rw [← hm1]; exact L.ans⟩
    intro j v' f hd' hf
    have ep : m1.prog j = m.prog j := by rw [← hm1]; rfl
    rw [e j] at hd' hf ⊢
    rw [ep] at hd'
    obtain ⟨g1, g2, g3⟩ := L.lnk j v' f hd' hf
    refine ⟨g1, ?_, g3⟩
    rw [ek]
    by_cases ej : j = h
    · subst ej
      rw [getD_set_self (by omega)]
      obtain ⟨c, g3⟩ := g3
      rw [hs] at g3
      cases g3
      rfl
    · rw [getD_set_ne (by have := L.cne j h ej g1; omega)]
      exact g2
  have e : m1.hd h = m.hd h := by unfold M.hd; rw [eh]
  refine L1.quiet (by rw [eh]; exact hl) _ (by rw [e]) (by rw [e]) (by rw [e]) fun v' f _ hf => ?_
  have ef : s.1 = f := Option.some.inj hf
  rw [e, ek, getD_set_self (by have := L.ll; omega)]
  exact ⟨hc, ef, s.2, by rw [← ef]; exact hs⟩
theorem Lin.tookF (L : Lin values m p) (hl : h < m.hands.length) {v : Int} {c : Nat} (hd : (m.prog h)[(m.hd h).at_]? = some (.push v)) (hc : (m.hd h).cell = 0) (hm : c ∈ m.freed) :
    Lin values (({ m with freed := m.freed.erase c, worths := m.worths.set (c - 1) v } : M).setH h { m.hd h with cell := c }) p := by
  obtain ⟨c1, c2, c3⟩ := L.fin c hm
  generalize hm1 : ({ m with freed := m.freed.erase c, worths := m.worths.set (c - 1) v } : M) = m1
  have eh : m1.hands = m.hands := by rw [← hm1]
  have ew : m1.worths = m.worths.set (c - 1) v := by rw [← hm1]
  have efr : m1.freed = m.freed.erase c := by rw [← hm1]
  have el : m1.links = m.links := by rw [← hm1]
  have et : m1.top = m.top := by rw [← hm1]
  have epr : ∀ j, m1.prog j = m.prog j := fun j => by rw [← hm1]; rfl
  have een : m1.ends = m.ends := by rw [← hm1]
  have H := set_hh (x := { m.hd h with cell := c }) eh hl
  have N := fun j n => set_hn (x := { m.hd h with cell := c }) eh hl (j := j) n
  generalize hm2 : m1.setH h { m.hd h with cell := c } = m2 at H N ⊢
  have ew2 : m2.worths = m.worths.set (c - 1) v := by rw [← hm2]; exact ew
  have efr2 : m2.freed = m.freed.erase c := by rw [← hm2]; exact efr
  have el2 : m2.links = m.links := by rw [← hm2]; exact el
  have et2 : m2.top = m.top := by rw [← hm2]; exact et
  have epr2 : ∀ j, m2.prog j = m.prog j := fun j => by rw [← hm2]; exact epr j
  have een2 : m2.ends = m.ends := by rw [← hm2]; exact een
  have edd : m2.deeds = m.deeds := by
    unfold M.deeds
    rw [een2]
    exact List.map_congr_left fun e _ => by rw [epr2]
  have wl : m2.worths.length = m.worths.length := by rw [ew2, List.length_set]
  have wne : ∀ d, d ≠ c → 1 ≤ d → m2.wor d = m.wor d := fun d n g => by
    unfold M.wor
    rw [ew2, getD_set_ne (by omega)]
  have cne : ∀ j, j ≠ h → (m.hd j).cell ≠ 0 → (m.hd j).cell ≠ c := fun j n z e => (L.cin j z).2.2 (e ▸ hm)
  refine ⟨by rw [el2, wl]; exact L.ll, by rw [el2, et2]; exact L.ch, L.nd, by rw [efr2]; exact L.fd.erase c, by rw [wl]; exact L.pin, ?_, ?_, ?_, ?_, ?_, ?_, ?_, ?_, ?_⟩
  · intro d hd
    rw [efr2] at hd
    rw [wl]
    exact L.fin d (List.mem_of_mem_erase hd)
  · intro j
    rw [wl, efr2]
    by_cases e : j = h
    · subst e
      rw [H]
      exact fun _ => ⟨c2, c3, fun z => ((L.fd.mem_erase_iff).mp z).1 rfl⟩
    · rw [N j e]
      intro z
      obtain ⟨g1, g2, g3⟩ := L.cin j z
      exact ⟨g1, g2, fun y => g3 (List.mem_of_mem_erase y)⟩
  · intro i j n
    by_cases ei : i = h
    · subst ei
      rw [H, N j (fun z => n z.symm)]
      intro _ e
      by_cases z : (m.hd j).cell = 0
      · have e' : c = (m.hd j).cell := e
        omega
      · exact cne j (fun z => n z.symm) z e.symm
    · rw [N i ei]
      by_cases ej : j = h
      · subst ej
        rw [H]
        exact fun z => cne i ei z
      · rw [N j ej]
        exact L.cne i j n
  · intro d h1 h2
    rw [wl] at h2
    rw [efr2]
    by_cases e : d = c
    · exact .inr (.inr ⟨h, by rw [H]; exact e.symm⟩)
    · rcases L.cov d h1 h2 with z | z | ⟨j, z⟩
      · exact .inl z
      · exact .inr (.inl ((List.mem_erase_of_ne e).mpr z))
      · refine .inr (.inr ⟨j, ?_⟩)
        have : j ≠ h := fun y => by
          subst y
          omega
        rw [N j this]
        exact z
  · intro j v' hd' hc'
    rw [epr2] at hd'
    by_cases e : j = h
    · subst e
      rw [H] at hd' ⊢
      have hd2 : (m.prog j)[(m.hd j).at_]? = some (.push v') := hd'
      rw [hd] at hd2
      cases hd2
      show m2.wor c = v
      unfold M.wor
      rw [ew2, getD_set_self (by omega)]
    · rw [N j e] at hd' hc' ⊢
      rw [wne _ (cne j e hc') (by omega)]
      exact L.wrt j v' hd' hc'
  · intro j v' f hd' hf
    rw [epr2] at hd'
    rw [el2]
    by_cases e : j = h
    · subst e
      rw [H] at hd' hf ⊢
      exact absurd hc (L.lnk j v' f hd' hf).1
    · rw [N j e] at hd' hf ⊢
      exact L.lnk j v' f hd' hf
  · rw [edd, ← L.vals]
    exact List.map_congr_left fun d hd => wne d (fun e => c3 (e ▸ hd)) (L.pin d hd).1
  · intro j
    rw [een2, epr2]
    by_cases e : j = h
    · subst e
      rw [L.ord j, decd_push hd, H]
      rw [decd_push (x := { m.hd j with cell := c }) hd]
    · rw [N j e]
      exact L.ord j
  · intro j
    rw [een2, edd, L.ans j]
    unfold M.full
    by_cases e : j = h
    · subst e
      rw [pend_push hd, pend_push (m := m2) (j := j) (v := v) (by rw [epr2, H]; exact hd), H]
    · rw [pend_eq (epr2 j) (by rw [N j e]) (by rw [N j e]) fun z => wne _ (cne j e z) (by omega), N j e]
theorem Lin.tookN (L : Lin values m p) (hl : h < m.hands.length) {v : Int} (hd : (m.prog h)[(m.hd h).at_]? = some (.push v)) (hc : (m.hd h).cell = 0) :
    Lin values (({ m with worths := m.worths ++ [v], links := m.links ++ [0] } : M).setH h { m.hd h with cell := m.worths.length + 1 }) p := by
  generalize hcc : m.worths.length + 1 = c
  generalize hm1 : ({ m with worths := m.worths ++ [v], links := m.links ++ [0] } : M) = m1
  have eh : m1.hands = m.hands := by rw [← hm1]
  have H := set_hh (x := { m.hd h with cell := c }) eh hl
  have N := fun j n => set_hn (x := { m.hd h with cell := c }) eh hl (j := j) n
  generalize hm2 : m1.setH h { m.hd h with cell := c } = m2 at H N ⊢
  have ew2 : m2.worths = m.worths ++ [v] := by rw [← hm2, ← hm1]; rfl
  have efr2 : m2.freed = m.freed := by rw [← hm2, ← hm1]; rfl
  have el2 : m2.links = m.links ++ [0] := by rw [← hm2, ← hm1]; rfl
  have et2 : m2.top = m.top := by rw [← hm2, ← hm1]; rfl
  have epr2 : ∀ j, m2.prog j = m.prog j := fun j => by rw [← hm2, ← hm1]; rfl
  have een2 : m2.ends = m.ends := by rw [← hm2, ← hm1]; rfl
  have edd : m2.deeds = m.deeds := by
    unfold M.deeds
    rw [een2]
    exact List.map_congr_left fun e _ => by rw [epr2]
  have wl : m2.worths.length = m.worths.length + 1 := by rw [ew2, List.length_append]; rfl
  have wne : ∀ d, d ≤ m.worths.length → 1 ≤ d → m2.wor d = m.wor d := fun d n g => by
    unfold M.wor
    rw [ew2, getD_app (by omega)]
  have hll := L.ll
  have cle : ∀ j, (m.hd j).cell ≠ 0 → (m.hd j).cell ≤ m.worths.length := fun j z => (L.cin j z).1
  refine ⟨by rw [el2, wl, List.length_append, hll]; rfl, by rw [el2, et2]; exact chain_grow L.ch fun d hd => by rw [hll]; exact L.pin d hd, L.nd, by rw [efr2]; exact L.fd, fun d hd => by have := L.pin d hd; rw [wl]; omega, ?_, ?_, ?_, ?_, ?_, ?_, ?_, ?_, ?_⟩
  · intro d hd
    rw [efr2] at hd
    obtain ⟨g1, g2, g3⟩ := L.fin d hd
    rw [wl]
    exact ⟨g1, by omega, g3⟩
  · intro j
    rw [wl, efr2]
    by_cases e : j = h
    · subst e
      rw [H]
      refine fun _ => ⟨by show c ≤ _; omega, fun z => ?_, fun z => ?_⟩
      · have := (L.pin _ z).2
        have e : c ≤ m.worths.length := this
        omega
      · have := (L.fin _ z).2.1
        have e : c ≤ m.worths.length := this
        omega
    · rw [N j e]
      intro z
      obtain ⟨g1, g2, g3⟩ := L.cin j z
      exact ⟨by omega, g2, g3⟩
  · intro i j n
    by_cases ei : i = h
    · subst ei
      rw [H, N j (fun z => n z.symm)]
      intro _ e
      have e' : c = (m.hd j).cell := e
      by_cases z : (m.hd j).cell = 0
      · omega
      · have := cle j z
        omega
    · rw [N i ei]
      by_cases ej : j = h
      · subst ej
        rw [H]
        intro z e
        have e' : (m.hd i).cell = c := e
        have := cle i z
        omega
      · rw [N j ej]
        exact L.cne i j n
  · intro d h1 h2
    rw [wl] at h2
    rw [efr2]
    by_cases e : d = c
    · exact .inr (.inr ⟨h, by rw [H]; exact e.symm⟩)
    · rcases L.cov d h1 (by omega) with z | z | ⟨j, z⟩
      · exact .inl z
      · exact .inr (.inl z)
      · refine .inr (.inr ⟨j, ?_⟩)
        have : j ≠ h := fun y => by
          subst y
          omega
        rw [N j this]
        exact z
  · intro j v' hd' hc'
    rw [epr2] at hd'
    by_cases e : j = h
    · subst e
      rw [H] at hd' ⊢
      have hd2 : (m.prog j)[(m.hd j).at_]? = some (.push v') := hd'
      rw [hd] at hd2
      cases hd2
      show m2.wor c = v
      unfold M.wor
      rw [ew2, ← hcc]
      simp
    · rw [N j e] at hd' hc' ⊢
      rw [wne _ (cle j hc') (by omega)]
      exact L.wrt j v' hd' hc'
  · intro j v' f hd' hf
    rw [epr2] at hd'
    rw [el2]
    by_cases e : j = h
    · subst e
      rw [H] at hd' hf ⊢
      exact absurd hc (L.lnk j v' f hd' hf).1
    · rw [N j e] at hd' hf ⊢
      obtain ⟨g1, g2, g3⟩ := L.lnk j v' f hd' hf
      have := cle j g1
      exact ⟨g1, by rw [getD_app (by omega)]; exact g2, g3⟩
  · rw [edd, ← L.vals]
    exact List.map_congr_left fun d hd => wne d (L.pin d hd).2 (L.pin d hd).1
  · intro j
    rw [een2, epr2]
    by_cases e : j = h
    · subst e
      rw [L.ord j, decd_push hd, H]
      rw [decd_push (x := { m.hd j with cell := c }) hd]
    · rw [N j e]
      exact L.ord j
  · intro j
    rw [een2, edd, L.ans j]
    unfold M.full
    by_cases e : j = h
    · subst e
      rw [pend_push hd, pend_push (m := m2) (j := j) (v := v) (by rw [epr2, H]; exact hd), H]
    · rw [pend_eq (epr2 j) (by rw [N j e]) (by rw [N j e]) fun z => wne _ (cle j z) (by omega), N j e]
theorem deeds_snoc {m m2 : M} {h k : Nat} {d : Deed} (e1 : m2.ends = m.ends ++ [(h, k)]) (e2 : ∀ j, m2.prog j = m.prog j) (hd : (m.prog h)[k]? = some d) : m2.deeds = m.deeds ++ [d] := by
  unfold M.deeds
  rw [e1, List.map_append]
  congr 1
  · exact List.map_congr_left fun e _ => by rw [e2]
  · show [(m2.prog h).getD k .pop] = [d]
    rw [e2, List.getD_eq_getElem?_getD, hd]
    rfl
theorem deeds_len (m : M) (values : List Int) : m.ends.length = (serial values m.deeds).1.length := by
  rw [serial_len1]
  unfold M.deeds
  rw [List.length_map]
theorem Lin.none (L : Lin values m p) (hl : h < m.hands.length) (hd : (m.prog h)[(m.hd h).at_]? = some .pop) (hc : (m.hd h).cell = 0) (ht : m.top = 0) :
    Lin values (({ m with ends := m.ends ++ [(h, (m.hd h).at_)] } : M).setH h ((m.hd h).ended .non)) p := by
  generalize hm1 : ({ m with ends := m.ends ++ [(h, (m.hd h).at_)] } : M) = m1
  have eh : m1.hands = m.hands := by rw [← hm1]
  have H := set_hh (x := (m.hd h).ended .non) eh hl
  have N := fun j n => set_hn (x := (m.hd h).ended .non) eh hl (j := j) n
  generalize hm2 : m1.setH h ((m.hd h).ended .non) = m2 at H N ⊢
  have ew2 : m2.worths = m.worths := by rw [← hm2, ← hm1]; rfl
  have efr2 : m2.freed = m.freed := by rw [← hm2, ← hm1]; rfl
  have el2 : m2.links = m.links := by rw [← hm2, ← hm1]; rfl
  have et2 : m2.top = m.top := by rw [← hm2, ← hm1]; rfl
  have epr2 : ∀ j, m2.prog j = m.prog j := fun j => by rw [← hm2, ← hm1]; rfl
  have een2 : m2.ends = m.ends ++ [(h, (m.hd h).at_)] := by rw [← hm2, ← hm1]; rfl
  have C : ∀ j, (m2.hd j).cell = (m.hd j).cell := fun j => by
    by_cases e : j = h
    · subst e
      rw [H, hc]
      rfl
    · rw [N j e]
  have W : ∀ c, m2.wor c = m.wor c := fun c => by unfold M.wor; rw [ew2]
  have p0 : p = [] := by
    have := L.ch
    rw [ht] at this
    exact chain_zero this
  subst p0
  have z0 : (serial values m.deeds).2 = [] := by
    have := L.vals
    rw [List.map_nil] at this
    simpa using this.symm
  have edd := deeds_snoc een2 epr2 hd
  have es : serial values m2.deeds = ((serial values m.deeds).1 ++ [.non], []) := by
    rw [edd, serial_snoc]
    unfold serialStep
    rw [z0]
    rfl
  refine ⟨by rw [el2, ew2]; exact L.ll, by rw [el2, et2]; exact L.ch, L.nd, by rw [efr2]; exact L.fd, by rw [ew2]; exact L.pin, by rw [ew2, efr2]; exact L.fin, fun j => by rw [C j, ew2, efr2]; exact L.cin j, fun i j n => by rw [C i, C j]; exact L.cne i j n, fun c h1 h2 => ?_, fun j v hd' hc' => ?_, fun j v f hd' hf => ?_, ?_, ?_, fun j => ?_⟩
  · rw [ew2] at h2
    rw [efr2]
    rcases L.cov c h1 h2 with z | z | ⟨j, z⟩
    · exact .inl z
    · exact .inr (.inl z)
    · exact .inr (.inr ⟨j, by rw [C j]; exact z⟩)
  · rw [epr2] at hd'
    rw [C j] at hc'
    have e : j ≠ h := fun e => by
      subst e
      exact hc' hc
    rw [N j e] at hd' ⊢
    rw [W]
    exact L.wrt j v hd' hc'
  · rw [epr2] at hd'
    have e : j ≠ h := fun e => by
      subst e
      rw [H] at hf
      cases hf
    rw [N j e] at hd' hf ⊢
    rw [el2]
    exact L.lnk j v f hd' hf
  · rw [es]
    rfl
  · rw [een2]
    refine ord_snoc (d := fun j => decd (m.prog j) (m.hd j)) (d' := fun j => decd (m2.prog j) (m2.hd j)) L.ord (decd_zero hc) ?_ fun j e => ?_
    · show decd (m2.prog h) (m2.hd h) = _
      rw [H, decd_ended]
    · show decd (m2.prog j) (m2.hd j) = decd (m.prog j) (m.hd j)
      rw [epr2, N j e]
  · rw [es, een2, ansOf_snoc (deeds_len m values), L.ans j]
    unfold M.full
    by_cases e : j = h
    · subst e
      rw [if_pos rfl, pend_zero hc, pend_zero (m := m2) (j := j) (by rw [C j]; exact hc), H, List.append_nil, List.append_nil]
      rfl
    · rw [if_neg (fun z => e z.symm), pend_eq (epr2 j) (by rw [N j e]) (C j) fun _ => W _, N j e, List.append_nil]
theorem Lin.didPush (L : Lin values m p) (hl : h < m.hands.length) {v : Int} {f : Nat} (hd : (m.prog h)[(m.hd h).at_]? = some (.push v)) (hc : (m.hd h).cell ≠ 0) (hs : (m.hd h).seen = some (m.top, m.count)) (hf : (m.hd h).follow = some f) :
    Lin values ((m.exchd h (m.hd h).cell).setH h ((m.hd h).ended .done)) ((m.hd h).cell :: p) := by
  obtain ⟨c1, c2, c3⟩ := L.cin h hc
  obtain ⟨_, lk, cc, sk⟩ := L.lnk h v f hd hf
  rw [hs] at sk
  cases sk
  have eh : (m.exchd h (m.hd h).cell).hands = m.hands := rfl
  have H := set_hh (x := (m.hd h).ended .done) eh hl
  have N := fun j n => set_hn (x := (m.hd h).ended .done) eh hl (j := j) n
  generalize hm2 : (m.exchd h (m.hd h).cell).setH h ((m.hd h).ended .done) = m2 at H N ⊢
  have ew2 : m2.worths = m.worths := by rw [← hm2]; rfl
  have efr2 : m2.freed = m.freed := by rw [← hm2]; rfl
  have el2 : m2.links = m.links := by rw [← hm2]; rfl
  have et2 : m2.top = (m.hd h).cell := by rw [← hm2]; rfl
  have epr2 : ∀ j, m2.prog j = m.prog j := fun j => by rw [← hm2]; rfl
  have een2 : m2.ends = m.ends ++ [(h, (m.hd h).at_)] := by rw [← hm2]; rfl
  have W : ∀ c, m2.wor c = m.wor c := fun c => by unfold M.wor; rw [ew2]
  have edd := deeds_snoc een2 epr2 hd
  have es : serial values m2.deeds = ((serial values m.deeds).1 ++ [.done], (serial values m.deeds).2 ++ [v]) := by
    rw [edd, serial_snoc]
    rfl
  have cz : (m2.hd h).cell = 0 := by rw [H]; rfl
  refine ⟨by rw [el2, ew2]; exact L.ll, ?_, List.nodup_cons.mpr ⟨c2, L.nd⟩, by rw [efr2]; exact L.fd, ?_, ?_, ?_, ?_, ?_, ?_, ?_, ?_, ?_, ?_⟩
  · rw [el2, et2]
    refine ⟨rfl, hc, ?_⟩
    rw [lk]
    exact L.ch
  · intro d hd
    rw [ew2]
    rcases List.mem_cons.mp hd with rfl | hd
    · omega
    · exact L.pin d hd
  · intro d hd
    rw [efr2] at hd
    rw [ew2]
    obtain ⟨g1, g2, g3⟩ := L.fin d hd
    refine ⟨g1, g2, fun z => ?_⟩
    rcases List.mem_cons.mp z with rfl | z
    · exact c3 hd
    · exact g3 z
  · intro j z
    have e : j ≠ h := fun e => by
      subst e
      exact z cz
    rw [N j e] at z ⊢
    rw [ew2, efr2]
    obtain ⟨g1, g2, g3⟩ := L.cin j z
    refine ⟨g1, fun y => ?_, g3⟩
    rcases List.mem_cons.mp y with y | y
    · exact L.cne j h e z y
    · exact g2 y
  · intro i j n z
    have e : i ≠ h := fun e => by
      subst e
      exact z cz
    rw [N i e] at z ⊢
    by_cases ej : j = h
    · subst ej
      rw [cz]
      exact z
    · rw [N j ej]
      exact L.cne i j n z
  · intro c h1 h2
    rw [ew2] at h2
    rw [efr2]
    rcases L.cov c h1 h2 with z | z | ⟨j, z⟩
    · exact .inl (List.mem_cons_of_mem _ z)
    · exact .inr (.inl z)
    · by_cases e : j = h
      · subst e
        exact .inl (by rw [z]; exact List.mem_cons_self)
      · exact .inr (.inr ⟨j, by rw [N j e]; exact z⟩)
  · intro j v' hd' hc'
    have e : j ≠ h := fun e => by
      subst e
      exact hc' cz
    rw [epr2] at hd'
    rw [N j e] at hd' hc' ⊢
    rw [W]
    exact L.wrt j v' hd' hc'
  · intro j v' f hd' hf'
    have e : j ≠ h := fun e => by
      subst e
      rw [H] at hf'
      cases hf'
    rw [epr2] at hd'
    rw [N j e] at hd' hf' ⊢
    rw [el2]
    exact L.lnk j v' f hd' hf'
  · rw [es, List.map_cons, W, L.wrt h v hd hc]
    show v :: p.map m2.wor = ((serial values m.deeds).2 ++ [v]).reverse
    rw [List.reverse_append, ← L.vals]
    show v :: _ = v :: _
    congr 1
    exact List.map_congr_left fun d _ => W d
  · rw [een2]
    refine ord_snoc (d := fun j => decd (m.prog j) (m.hd j)) (d' := fun j => decd (m2.prog j) (m2.hd j)) L.ord (decd_push hd) ?_ fun j e => ?_
    · show decd (m2.prog h) (m2.hd h) = _
      rw [H, decd_ended]
    · show decd (m2.prog j) (m2.hd j) = decd (m.prog j) (m.hd j)
      rw [epr2, N j e]
  · intro j
    rw [es, een2, ansOf_snoc (deeds_len m values), L.ans j]
    unfold M.full
    by_cases e : j = h
    · subst e
      rw [if_pos rfl, pend_push hd, pend_zero (m := m2) (j := j) cz, H, List.append_nil, List.append_nil]
      rfl
    · rw [if_neg (fun z => e z.symm), pend_eq (epr2 j) (by rw [N j e]) (by rw [N j e]) fun _ => W _, N j e, List.append_nil]
theorem Lin.didPop (L : Lin values m p) (hl : h < m.hands.length) {f : Nat} {b : Bool} (hd : (m.prog h)[(m.hd h).at_]? = some .pop) (hc : (m.hd h).cell = 0) (ht : m.top ≠ 0) (hk : m.links.getD (m.top - 1) 0 = f) :
    ∃ p', p = m.top :: p' ∧ Lin values (({ m.exchd h f with strayed := b } : M).setH h { m.hd h with cell := m.top }) p' := by
  cases p with
  | nil => exact absurd L.ch ht
  | cons c p =>
  obtain ⟨rfl, c0, ch⟩ := L.ch
  refine ⟨p, rfl, ?_⟩
  rw [hk] at ch
  have nd := List.nodup_cons.mp L.nd
  have ti := L.pin m.top List.mem_cons_self
  generalize htt : m.top = t at *
  generalize hm1 : ({ m.exchd h f with strayed := b } : M) = m1
  have eh : m1.hands = m.hands := by rw [← hm1]; rfl
  have H := set_hh (x := { m.hd h with cell := t }) eh hl
  have N := fun j n => set_hn (x := { m.hd h with cell := t }) eh hl (j := j) n
  generalize hm2 : m1.setH h { m.hd h with cell := t } = m2 at H N ⊢
  have ew2 : m2.worths = m.worths := by rw [← hm2, ← hm1]; rfl
  have efr2 : m2.freed = m.freed := by rw [← hm2, ← hm1]; rfl
  have el2 : m2.links = m.links := by rw [← hm2, ← hm1]; rfl
  have et2 : m2.top = f := by rw [← hm2, ← hm1]; rfl
  have epr2 : ∀ j, m2.prog j = m.prog j := fun j => by rw [← hm2, ← hm1]; rfl
  have een2 : m2.ends = m.ends ++ [(h, (m.hd h).at_)] := by rw [← hm2, ← hm1]; rfl
  have W : ∀ c, m2.wor c = m.wor c := fun c => by unfold M.wor; rw [ew2]
  have edd := deeds_snoc een2 epr2 hd
  have z0 : (serial values m.deeds).2 = (p.map m.wor).reverse ++ [m.wor t] := by
    have := congrArg List.reverse L.vals
    rw [List.reverse_reverse] at this
    rw [← this]
    simp
  have es : serial values m2.deeds = ((serial values m.deeds).1 ++ [.val (m.wor t)], (p.map m.wor).reverse) := by
    rw [edd, serial_snoc]
    unfold serialStep
    rw [z0]
    simp
  have cj : ∀ j, (m.hd j).cell ≠ 0 → (m.hd j).cell ≠ t := fun j z e => (L.cin j z).2.1 (by rw [e]; exact List.mem_cons_self)
  refine ⟨by rw [el2, ew2]; exact L.ll, by rw [el2, et2]; exact ch, nd.2, by rw [efr2]; exact L.fd, ?_, ?_, ?_, ?_, ?_, ?_, ?_, ?_, ?_, ?_⟩
  · intro d hd
    rw [ew2]
    exact L.pin d (List.mem_cons_of_mem _ hd)
  · intro d hd
    rw [efr2] at hd
    rw [ew2]
    obtain ⟨g1, g2, g3⟩ := L.fin d hd
    exact ⟨g1, g2, fun z => g3 (List.mem_cons_of_mem _ z)⟩
  · intro j z
    rw [ew2, efr2]
    by_cases e : j = h
    · subst e
      rw [H]
      exact ⟨ti.2, nd.1, fun y => (L.fin t y).2.2 List.mem_cons_self⟩
    · rw [N j e] at z ⊢
      obtain ⟨g1, g2, g3⟩ := L.cin j z
      exact ⟨g1, fun y => g2 (List.mem_cons_of_mem _ y), g3⟩
  · intro i j n z
    by_cases ei : i = h
    · subst ei
      rw [H, N j (fun z => n z.symm)]
      intro e
      have e' : t = (m.hd j).cell := e
      exact cj j (by omega) e'.symm
    · rw [N i ei] at z ⊢
      by_cases ej : j = h
      · subst ej
        rw [H]
        exact cj i z
      · rw [N j ej]
        exact L.cne i j n z
  · intro c h1 h2
    rw [ew2] at h2
    rw [efr2]
    rcases L.cov c h1 h2 with z | z | ⟨j, z⟩
    · rcases List.mem_cons.mp z with z | z
      · exact .inr (.inr ⟨h, by rw [H]; exact z.symm⟩)
      · exact .inl z
    · exact .inr (.inl z)
    · have e : j ≠ h := fun e => by
        subst e
        omega
      exact .inr (.inr ⟨j, by rw [N j e]; exact z⟩)
  · intro j v' hd' hc'
    rw [epr2] at hd'
    by_cases e : j = h
    · subst e
      rw [H] at hd'
      have hd2 : (m.prog j)[(m.hd j).at_]? = some (.push v') := hd'
      rw [hd] at hd2
      cases hd2
    · rw [N j e] at hd' hc' ⊢
      rw [W]
      exact L.wrt j v' hd' hc'
  · intro j v' f' hd' hf'
    rw [epr2] at hd'
    by_cases e : j = h
    · subst e
      rw [H] at hd'
      have hd2 : (m.prog j)[(m.hd j).at_]? = some (.push v') := hd'
      rw [hd] at hd2
      cases hd2
    · rw [N j e] at hd' hf' ⊢
      rw [el2]
      exact L.lnk j v' f' hd' hf'
  · rw [es]
    show p.map m2.wor = ((p.map m.wor).reverse).reverse
    rw [List.reverse_reverse]
    exact List.map_congr_left fun d _ => W d
  · rw [een2]
    refine ord_snoc (d := fun j => decd (m.prog j) (m.hd j)) (d' := fun j => decd (m2.prog j) (m2.hd j)) L.ord (decd_zero hc) ?_ fun j e => ?_
    · show decd (m2.prog h) (m2.hd h) = _
      rw [H, epr2, decd_pop (x := { m.hd h with cell := t }) hd c0]
    · show decd (m2.prog j) (m2.hd j) = decd (m.prog j) (m.hd j)
      rw [epr2, N j e]
  · intro j
    rw [es, een2, ansOf_snoc (deeds_len m values), L.ans j]
    unfold M.full
    by_cases e : j = h
    · subst e
      rw [if_pos rfl, pend_zero hc, pend_pop (m := m2) (j := j) (by rw [epr2, H]; exact hd) (by rw [H]; exact c0), H, List.append_nil]
      show _ ++ [Ans.val (m.wor t)] = _ ++ [Ans.val (m2.wor t)]
      rw [W]
    · rw [if_neg (fun z => e z.symm), pend_eq (epr2 j) (by rw [N j e]) (by rw [N j e]) fun _ => W _, N j e, List.append_nil]
theorem Lin.letGo (L : Lin values m p) (hl : h < m.hands.length) (hd : (m.prog h)[(m.hd h).at_]? = some .pop) (hc : (m.hd h).cell ≠ 0) :
    Lin values (({ m with freed := m.freed ++ [(m.hd h).cell] } : M).setH h ((m.hd h).ended (.val (m.worths.getD ((m.hd h).cell - 1) 0)))) p := by
  obtain ⟨c1, c2, c3⟩ := L.cin h hc
  generalize hx : (m.hd h).ended (.val (m.worths.getD ((m.hd h).cell - 1) 0)) = x
  generalize hm1 : ({ m with freed := m.freed ++ [(m.hd h).cell] } : M) = m1
  have eh : m1.hands = m.hands := by rw [← hm1]
  have H := set_hh (x := x) eh hl
  have N := fun j n => set_hn (x := x) eh hl (j := j) n
  generalize hm2 : m1.setH h x = m2 at H N ⊢
  have ew2 : m2.worths = m.worths := by rw [← hm2, ← hm1]; rfl
  have efr2 : m2.freed = m.freed ++ [(m.hd h).cell] := by rw [← hm2, ← hm1]; rfl
  have el2 : m2.links = m.links := by rw [← hm2, ← hm1]; rfl
  have et2 : m2.top = m.top := by rw [← hm2, ← hm1]; rfl
  have epr2 : ∀ j, m2.prog j = m.prog j := fun j => by rw [← hm2, ← hm1]; rfl
  have een2 : m2.ends = m.ends := by rw [← hm2, ← hm1]; rfl
  have W : ∀ c, m2.wor c = m.wor c := fun c => by unfold M.wor; rw [ew2]
  have edd : m2.deeds = m.deeds := by
    unfold M.deeds
    rw [een2]
    exact List.map_congr_left fun e _ => by rw [epr2]
  have cz : (m2.hd h).cell = 0 := by rw [H, ← hx]; rfl
  refine ⟨by rw [el2, ew2]; exact L.ll, by rw [el2, et2]; exact L.ch, L.nd, ?_, by rw [ew2]; exact L.pin, ?_, ?_, ?_, ?_, ?_, ?_, ?_, ?_, ?_⟩
  · rw [efr2, List.nodup_append]
    refine ⟨L.fd, by simp, fun a ha b hb => ?_⟩
    have : b = (m.hd h).cell := by simpa using hb
    rw [this]
    exact fun z => c3 (z ▸ ha)
  · intro d hd
    rw [efr2] at hd
    rw [ew2]
    rcases List.mem_append.mp hd with z | z
    · exact L.fin d z
    · have : d = (m.hd h).cell := by simpa using z
      subst this
      exact ⟨by omega, c1, c2⟩
  · intro j z
    have e : j ≠ h := fun e => by
      subst e
      exact z cz
    rw [N j e] at z ⊢
    rw [ew2, efr2]
    obtain ⟨g1, g2, g3⟩ := L.cin j z
    refine ⟨g1, g2, fun y => ?_⟩
    rcases List.mem_append.mp y with y | y
    · exact g3 y
    · have : (m.hd j).cell = (m.hd h).cell := by simpa using y
      exact L.cne j h e z this
  · intro i j n z
    have e : i ≠ h := fun e => by
      subst e
      exact z cz
    rw [N i e] at z ⊢
    by_cases ej : j = h
    · subst ej
      rw [cz]
      exact z
    · rw [N j ej]
      exact L.cne i j n z
  · intro c h1 h2
    rw [ew2] at h2
    rw [efr2]
    rcases L.cov c h1 h2 with z | z | ⟨j, z⟩
    · exact .inl z
    · exact .inr (.inl (List.mem_append_left _ z))
    · by_cases e : j = h
      · subst e
        exact .inr (.inl (by rw [← z]; simp))
      · exact .inr (.inr ⟨j, by rw [N j e]; exact z⟩)
  · intro j v' hd' hc'
    have e : j ≠ h := fun e => by
      subst e
      exact hc' cz
    rw [epr2] at hd'
    rw [N j e] at hd' hc' ⊢
    rw [W]
    exact L.wrt j v' hd' hc'
  · intro j v' f hd' hf'
    have e : j ≠ h := fun e => by
      subst e
      rw [H, ← hx] at hf'
      cases hf'
    rw [epr2] at hd'
    rw [N j e] at hd' hf' ⊢
    rw [el2]
    exact L.lnk j v' f hd' hf'
  · rw [edd, ← L.vals]
    exact List.map_congr_left fun d _ => W d
  · intro j
    rw [een2, epr2]
    by_cases e : j = h
    · subst e
      rw [L.ord j, decd_pop hd hc, H, ← hx, decd_ended]
    · rw [N j e]
      exact L.ord j
  · intro j
    rw [een2, edd, L.ans j]
    unfold M.full
    by_cases e : j = h
    · subst e
      rw [pend_pop hd hc, pend_zero (m := m2) (j := j) cz, H, ← hx, List.append_nil]
      rfl
    · rw [pend_eq (epr2 j) (by rw [N j e]) (by rw [N j e]) fun _ => W _, N j e]
end
/-- what was stale stays so -/
theorem stray_mono {m : M} {h : Nat} (e : (m.step h).strayed = false) : m.strayed = false := by
  have := move m h
  generalize (m.turn h).1 = t at this
  generalize m.step h = m' at this e
  cases this with
  | exchanges f hd hs hc hn hf =>
    have e' : (m.strayed || m.links.getD (m.top - 1) 0 != f) = false := e
    rw [Bool.or_eq_false_iff] at e'
    exact e'.1
  | _ => exact e
theorem run_stray : ∀ {w : List Nat} {m : M}, (m.run w).strayed = false → m.strayed = false
  | [], _, e => e
  | h :: w, m, e => stray_mono (run_stray (w := w) (m := m.step h) e)
theorem Lin.step {values : List Int} {ps : List (List Deed)} {r : Rule} {m : M} {p : List Nat} {h : Nat} (L : Lin values m p) (f : Fine ps r m) (hl : h < ps.length) (e : (m.step h).strayed = false) : ∃ p', Lin values (m.step h) p' := by
  have hl' : h < m.hands.length := by rw [f.hn]; exact hl
  have K := f.hand h
  have mv := move m h
  generalize (m.turn h).1 = t at mv
  generalize hm' : m.step h = m' at mv e
  cases mv with
  | rests hd => exact ⟨p, L⟩
  | takesF v c hd hc hp => exact ⟨p, L.tookF hl' hd hc (pick_mem hp)⟩
  | takesN v hd hc hp => exact ⟨p, L.tookN hl' hd hc⟩
  | readsQ v hd hc hs => exact ⟨p, L.quiet hl' _ rfl rfl rfl fun v' g h1 h2 => by
      obtain ⟨_, _, c, z⟩ := L.lnk h v' g h1 h2
      rw [hs] at z
      cases z⟩
  | readsP hd hs ht => exact ⟨p, L.quiet hl' _ rfl rfl rfl fun v' g h1 h2 => by
      rw [hd] at h1
      cases h1⟩
  | empty hd hs ht =>
    refine ⟨p, L.none hl' hd ?_ ht⟩
    apply Classical.byContradiction
    exact fun z => K.popS hd z hs
  | links v s hd hc hs hf => exact ⟨p, L.linked hl' hd hc hs⟩
  | pushed v g hd hc hs hf => exact ⟨_, L.didPush hl' hd hc hs hf⟩
  | missQ v s g hd hc hs hf hn => exact ⟨p, L.quiet hl' _ rfl rfl rfl fun v' g h1 h2 => by cases h2⟩
  | popped s hd hs hc => exact ⟨p, L.letGo hl' hd hc⟩
  | marks s hd hs hc hn hk hm => exact ⟨p, L.quiet hl' _ rfl rfl rfl fun v' g h1 h2 => by
      rw [hd] at h1
      cases h1⟩
  | looksF s hd hs hc hn hk hm ht => exact ⟨p, L.quiet hl' _ rfl rfl rfl fun v' g h1 h2 => by cases h2⟩
  | looksT s hd hs hc hn hk hm ht => exact ⟨p, L.quiet hl' _ rfl rfl rfl fun v' g h1 h2 => by
      rw [hd] at h1
      cases h1⟩
  | follows s hd hs hc hn hf => exact ⟨p, L.quiet hl' _ rfl rfl rfl fun v' g h1 h2 => by
      rw [hd] at h1
      cases h1⟩
  | exchanges g hd hs hc hn hf =>
    have e' : (m.strayed || m.links.getD (m.top - 1) 0 != g) = false := e
    rw [Bool.or_eq_false_iff] at e'
    have ek : m.links.getD (m.top - 1) 0 = g := by simpa using e'.2
    have t0 : m.top ≠ 0 := by have := K.popC _ hd hs; omega
    obtain ⟨p', _, L'⟩ := L.didPop (b := m.strayed || m.links.getD (m.top - 1) 0 != g) hl' hd hc t0 ek
    exact ⟨p', L'⟩
  | missP s g hd hs hc hn hf hx => exact ⟨p, L.quiet hl' _ rfl rfl rfl fun v' g h1 h2 => by cases h2⟩
theorem pile0_mem : ∀ (n : Nat) {x : Nat}, 1 ≤ x → x ≤ n → x ∈ pile0 n
  | 0, x, h1, h2 => by omega
  | n + 1, x, h1, h2 => by
    by_cases e : x = n + 1
    · rw [e]
      exact List.mem_cons_self
    · exact List.mem_cons_of_mem _ (pile0_mem n h1 (by omega))
theorem begin_hd (values : List Int) (ps : List (List Deed)) (r : Rule) (j : Nat) : (M.begin_ values ps r).hd j = {} := by
  unfold M.hd M.begin_
  simp only [List.getD_eq_getElem?_getD, List.getElem?_map]
  cases ps[j]? <;> rfl
theorem Lin.begin_ (values : List Int) (ps : List (List Deed)) (r : Rule) : Lin values (M.begin_ values ps r) (pile0 values.length) := by
  have hd := begin_hd values ps r
  have C := (begin_calm values ps r).1
  refine ⟨C.ll, C.ch, C.nd, C.fd, C.inn, C.fr, fun j z => (by rw [hd j] at z; exact absurd rfl z), fun i j _ z => (by rw [hd i] at z; exact absurd rfl z), fun c h1 h2 => .inl (pile0_mem _ h1 h2), fun j v _ z => (by rw [hd j] at z; exact absurd rfl z), fun j v f _ z => (by rw [hd j] at z; cases z), ?_, fun j => ?_, fun j => ?_⟩
  · have := (begin_calm values ps r).2
    rw [C.values] at this
    exact this
  · rw [hd j, decd_zero rfl]
    rfl
  · unfold M.full
    rw [hd j, pend_zero (by rw [hd j])]
    rfl
theorem Lin.run {values : List Int} {ps : List (List Deed)} {r : Rule} : ∀ {w : List Nat} {m : M} {p : List Nat}, Lin values m p → Fine ps r m → (∀ h ∈ w, h < ps.length) → (m.run w).strayed = false → ∃ p', Lin values (m.run w) p'
  | [], m, p, L, _, _, _ => ⟨p, L⟩
  | h :: w, m, p, L, f, hw, e => by
    have h1 := hw h List.mem_cons_self
    obtain ⟨p1, L1⟩ := L.step f h1 (run_stray (w := w) (m := m.step h) e)
    exact L1.run (f.step h1) (fun x hx => hw x (List.mem_cons_of_mem _ hx)) e
theorem Lin.pile {values : List Int} {m : M} {p : List Nat} (L : Lin values m p) : m.pile = p := by
  have hlen := nodup_len m.worths.length L.nd L.pin
  have hll := L.ll
  unfold M.pile
  rw [pileFrom_chain _ L.ch (by rw [List.nil_append]; exact L.nd) (by omega)]
  rfl
theorem Lin.values {values : List Int} {m : M} {p : List Nat} (L : Lin values m p) : m.pileValues = (serial values m.deeds).2.reverse := by
  unfold M.pileValues
  rw [L.pile, ← L.vals]
  rfl
end SS

set_option linter.all false
/-! By keeps, by marks of all hands, by counts more than the deeds nothing is stale. -/
namespace SS
def total (ps : List (List Deed)) : Nat := (ps.map List.length).sum
def goodRule (ps : List (List Deed)) : Rule → Prop
  | .keeps => True
  | .counts k => total ps < k
  | .marks hs => ∀ j, j < ps.length → j ∈ hs
def cnd (r : Rule) (count : Nat) (lk : Bool) (c : Nat) : Prop :=
  match r with
  | .keeps => True
  | .counts _ => c = count
  | .marks _ => lk = true
def pushX (m : M) (i : Nat) (x : Hd) : Prop := (∃ v, (m.prog i)[x.at_]? = some (.push v)) ∧ x.cell ≠ 0
def popX (m : M) (i : Nat) (x : Hd) : Prop := (m.prog i)[x.at_]? = some .pop
structure Safe (m : M) : Prop where
  new : ∀ j, (m.hd j).seen = none → (m.hd j).follow = none ∧ (m.hd j).looked = false
  off : ∀ j t c, popX m j (m.hd j) → (m.hd j).cell = 0 → (m.hd j).seen = some (t, c) → cnd m.rule m.count (m.hd j).looked c → (∀ i, pushX m i (m.hd i) → (m.hd i).cell ≠ t) ∧ ∀ f, (m.hd j).follow = some f → m.links.getD (t - 1) 0 = f
  cnt : ∀ k, m.rule = .counts k → m.count ≤ m.ends.length ∧ ∀ j t c, (m.hd j).seen = some (t, c) → c ≤ m.count ∧ (c = m.count → t = m.top)
  mrk : ∀ hs, m.rule = .marks hs → ∀ j, popX m j (m.hd j) → (m.hd j).looked = true → ∃ c, (m.hd j).seen = some ((m.hd j).mark, c)
  flw : ∀ hs, m.rule = .marks hs → ∀ j, popX m j (m.hd j) → (m.hd j).cell = 0 → m.rule.named j = true → (m.hd j).follow ≠ none → (m.hd j).looked = true
section
variable {m : M} {h : Nat}
theorem Safe.upd {m1 : M} (S : Safe m) (hl : h < m.hands.length) (x : Hd) (eh : m1.hands = m.hands) (ep : m1.progs = m.progs) (er : m1.rule = m.rule)
    (h1 : x.seen = none → x.follow = none ∧ x.looked = false)
    (h2 : ∀ t c, popX m h x → x.cell = 0 → x.seen = some (t, c) → cnd m.rule m1.count x.looked c → (∀ i, i ≠ h → pushX m i (m.hd i) → (m.hd i).cell ≠ t) ∧ ∀ f, x.follow = some f → m1.links.getD (t - 1) 0 = f)
    (hK : ∀ j t c, j ≠ h → popX m j (m.hd j) → (m.hd j).cell = 0 → (m.hd j).seen = some (t, c) → cnd m.rule m1.count (m.hd j).looked c → cnd m.rule m.count (m.hd j).looked c ∧ ((∀ i, pushX m i (m.hd i) → (m.hd i).cell ≠ t) → m1.links.getD (t - 1) 0 = m.links.getD (t - 1) 0 ∧ (pushX m h x → x.cell ≠ t)))
    (hC : ∀ k, m.rule = .counts k → m1.count ≤ m1.ends.length ∧ (∀ j t c, j ≠ h → (m.hd j).seen = some (t, c) → c ≤ m1.count ∧ (c = m1.count → t = m1.top)) ∧ ∀ t c, x.seen = some (t, c) → c ≤ m1.count ∧ (c = m1.count → t = m1.top))
    (h4 : ∀ hs, m.rule = .marks hs → popX m h x → x.looked = true → ∃ c, x.seen = some (x.mark, c))
    (h5 : ∀ hs, m.rule = .marks hs → popX m h x → x.cell = 0 → m.rule.named h = true → x.follow ≠ none → x.looked = true) : Safe (m1.setH h x) := by
  have H := set_hh (x := x) eh hl
  have N := fun j n => set_hn (x := x) eh hl (j := j) n
  have P : ∀ j, m1.prog j = m.prog j := fun j => by unfold M.prog; rw [ep]
  generalize hm2 : m1.setH h x = m2 at H N ⊢
  have P2 : ∀ j, m2.prog j = m.prog j := fun j => by rw [← hm2]; exact P j
  have er2 : m2.rule = m.rule := by rw [← hm2]; exact er
  have el2 : m2.links = m1.links := by rw [← hm2]; rfl
  have et2 : m2.top = m1.top := by rw [← hm2]; rfl
  have ec2 : m2.count = m1.count := by rw [← hm2]; rfl
  have ee2 : m2.ends = m1.ends := by rw [← hm2]; rfl
  have Pop : ∀ j y, popX m2 j y → popX m j y := fun j y e => by
    unfold popX at e ⊢
    rw [P2] at e
    exact e
  have Pus : ∀ j y, pushX m2 j y → pushX m j y := fun j y e => by
    unfold pushX at e ⊢
    rw [P2] at e
    exact e
  refine ⟨fun j e => ?_, fun j t c hp hc hs hd => ?_, fun k hk => ?_, fun hs hr j hp hlk => ?_, fun hs hr j hp hc hn hf => ?_⟩
  · by_cases z : j = h
    · subst z
      rw [H] at e ⊢
      exact h1 e
    · rw [N j z] at e ⊢
      exact S.new j e
  · have hp := Pop _ _ hp
    rw [er2, ec2] at hd
    rw [el2]
    by_cases z : j = h
    · subst z
      rw [H] at hp hc hs hd ⊢
      obtain ⟨g1, g2⟩ := h2 t c hp hc hs hd
      refine ⟨fun i hi => ?_, g2⟩
      have hi := Pus _ _ hi
      by_cases zi : i = j
      · subst zi
        rw [H] at hi
        obtain ⟨⟨v, hv⟩, _⟩ := hi
        unfold popX at hp
        rw [hp] at hv
        cases hv
      · rw [N i zi] at hi ⊢
        exact g1 i zi hi
    · rw [N j z] at hp hc hs hd ⊢
      obtain ⟨g1, g2⟩ := hK j t c z hp hc hs hd
      obtain ⟨g3, g4⟩ := S.off j t c hp hc hs g1
      obtain ⟨g5, g6⟩ := g2 g3
      refine ⟨fun i hi => ?_, fun f hf => by rw [g5]; exact g4 f hf⟩
      have hi := Pus _ _ hi
      by_cases zi : i = h
      · subst zi
        rw [H] at hi ⊢
        exact g6 hi
      · rw [N i zi] at hi ⊢
        exact g3 i hi
  · rw [er2] at hk
    obtain ⟨g1, g2, g3⟩ := hC k hk
    rw [ec2, ee2, et2]
    refine ⟨g1, fun j t c hs => ?_⟩
    by_cases z : j = h
    · subst z
      rw [H] at hs
      exact g3 t c hs
    · rw [N j z] at hs
      exact g2 j t c z hs
  · have hp := Pop _ _ hp
    rw [er2] at hr
    by_cases z : j = h
    · subst z
      rw [H] at hp hlk ⊢
      exact h4 hs hr hp hlk
    · rw [N j z] at hp hlk ⊢
      exact S.mrk hs hr j hp hlk
  · have hp := Pop _ _ hp
    rw [er2] at hr hn
    by_cases z : j = h
    · subst z
      rw [H] at hp hc hf ⊢
      exact h5 hs hr hp hc hn hf
    · rw [N j z] at hp hc hf ⊢
      exact S.flw hs hr j hp hc hn hf
/-- a hand reads, marks, looks, follows, forgets -/
theorem Safe.quiet (S : Safe m) (hl : h < m.hands.length) (x : Hd) (ea : x.at_ = (m.hd h).at_) (ec : x.cell = (m.hd h).cell)
    (h1 : x.seen = none → x.follow = none ∧ x.looked = false)
    (h2 : ∀ t c, popX m h x → x.cell = 0 → x.seen = some (t, c) → cnd m.rule m.count x.looked c → (∀ i, pushX m i (m.hd i) → (m.hd i).cell ≠ t) ∧ ∀ f, x.follow = some f → m.links.getD (t - 1) 0 = f)
    (h3 : ∀ t c, x.seen = some (t, c) → (m.hd h).seen = some (t, c) ∨ (t = m.top ∧ c = m.count))
    (h4 : ∀ hs, m.rule = .marks hs → popX m h x → x.looked = true → ∃ c, x.seen = some (x.mark, c))
    (h5 : ∀ hs, m.rule = .marks hs → popX m h x → x.cell = 0 → m.rule.named h = true → x.follow ≠ none → x.looked = true) : Safe (m.setH h x) := by
  refine S.upd hl x rfl rfl rfl h1 (fun t c e1 e2 e3 e4 => ⟨fun i _ => (h2 t c e1 e2 e3 e4).1 i, (h2 t c e1 e2 e3 e4).2⟩) (fun j t c n e1 e2 e3 e4 => ⟨e4, fun g => ⟨rfl, fun hp => ?_⟩⟩) (fun k hk => ⟨(S.cnt k hk).1, fun j t c _ => (S.cnt k hk).2 j t c, fun t c hs => ?_⟩) h4 h5
  · rw [ec]
    refine g h ?_
    unfold pushX at hp ⊢
    rw [ea, ec] at hp
    exact hp
  · rcases h3 t c hs with y | ⟨y1, y2⟩
    · exact (S.cnt k hk).2 h t c y
    · exact ⟨Nat.le_of_eq y2, fun _ => y1⟩
/-- a hand ends a deed or lets a cell go: top, count, nexts stand -/
theorem Safe.ended {m1 : M} (S : Safe m) (hl : h < m.hands.length) (a : Ans) (eh : m1.hands = m.hands) (ep : m1.progs = m.progs) (er : m1.rule = m.rule) (el : m1.links = m.links) (et : m1.top = m.top) (ec : m1.count = m.count) (ee : m.ends.length ≤ m1.ends.length) : Safe (m1.setH h ((m.hd h).ended a)) := by
  refine S.upd hl _ eh ep er (fun _ => ⟨rfl, rfl⟩) (fun t c _ _ e _ => by cases e) (fun j t c n e1 e2 e3 e4 => ⟨by rw [ec] at e4; exact e4, fun g => ⟨by rw [el], fun hp => absurd rfl hp.2⟩⟩) (fun k hk => ⟨by rw [ec]; exact Nat.le_trans (S.cnt k hk).1 ee, fun j t c _ => by rw [ec, et]; exact (S.cnt k hk).2 j t c, fun t c e => by cases e⟩) (fun _ _ _ e => by cases e) (fun _ _ _ _ _ e => absurd rfl e)
theorem turned_eq {k : Nat} (hr : m.rule = .counts k) (hk : m.count + 1 < k) : m.turned = m.count + 1 := by
  unfold M.turned
  rw [hr]
  exact Nat.mod_eq_of_lt hk
/-- an exchange: whoever has read the top by counts has missed it -/
theorem Safe.exch {m1 : M} (S : Safe m) (hl : h < m.hands.length) (x : Hd) (eh : m1.hands = m.hands) (ep : m1.progs = m.progs) (er : m1.rule = m.rule) (el : m1.links = m.links) (ec : m1.count = m.turned) (ee : m1.ends.length = m.ends.length + 1)
    (hk : ∀ k, m.rule = .counts k → m.count + 1 < k) (hx : x.seen = none ∨ x.seen = (m.hd h).seen) (h1 : x.seen = none → x.follow = none ∧ x.looked = false) (h2 : popX m h x → x.seen ≠ none → x.cell ≠ 0) (h6 : ¬ pushX m h x)
    (h4 : ∀ hs, m.rule = .marks hs → popX m h x → x.looked = true → ∃ c, x.seen = some (x.mark, c)) : Safe (m1.setH h x) := by
  have old : ∀ k, m.rule = .counts k → ∀ j t c, (m.hd j).seen = some (t, c) → c < m1.count := fun k hr j t c e => by
    have := (S.cnt k hr).2 j t c e
    rw [ec, turned_eq hr (hk k hr)]
    omega
  have keep : ∀ j c t, (m.hd j).seen = some (t, c) → cnd m.rule m1.count (m.hd j).looked c → cnd m.rule m.count (m.hd j).looked c := fun j c t e1 e2 => by
    cases er : m.rule with
    | keeps => trivial
    | marks hs =>
      rw [er] at e2
      exact e2
    | counts k =>
      rw [er] at e2
      have e2' : c = m1.count := e2
      have := old k er j t c e1
      omega
  have seenx : ∀ t c, x.seen = some (t, c) → (m.hd h).seen = some (t, c) := fun t c e => by
    rcases hx with z | z
    · rw [z] at e
      cases e
    · rw [← z]
      exact e
  refine S.upd hl x eh ep er h1 (fun t c e1 e2 e3 e4 => absurd e2 (h2 e1 (by rw [e3]; simp))) (fun j t c n e1 e2 e3 e4 => ⟨keep j c t e3 e4, fun g => ⟨by rw [el], fun hp => absurd hp h6⟩⟩) (fun k hr => ⟨?_, fun j t c _ e => ?_, fun t c e => ?_⟩) h4 (fun hs _ e1 e2 _ e3 => ?_)
  · rw [ec, turned_eq hr (hk k hr), ee]
    exact Nat.succ_le_succ (S.cnt k hr).1
  · have := old k hr j t c e
    exact ⟨by omega, fun z => by omega⟩
  · have := old k hr h t c (seenx t c e)
    exact ⟨by omega, fun z => by omega⟩
  · cases es : x.seen with
    | none => exact absurd (h1 es).1 e3
    | some s => exact absurd e2 (h2 e1 (by rw [es]; simp))
end
theorem total_eq (ps : List (List Deed)) : total ps = sumTo (fun j => (ps.getD j []).length) ps.length := by
  unfold total
  induction ps with
  | nil => rfl
  | cons p ps ih =>
    have go : ∀ (f : Nat → Nat) n, sumTo f (n + 1) = f 0 + sumTo (fun i => f (i + 1)) n := by
      intro f n
      induction n with
      | zero => simp [sumTo]
      | succ n ih2 =>
        show sumTo f (n + 1) + f (n + 1) = f 0 + (sumTo (fun i => f (i + 1)) n + f (n + 1))
        rw [ih2]
        omega
    rw [List.map_cons, List.sum_cons, ih, List.length_cons, go]
    rfl
theorem Fine.ends_le {ps : List (List Deed)} {r : Rule} {m : M} (f : Fine ps r m) : m.ends.length ≤ total ps := by
  have h1 := f.good.el
  have h2 : sumTo (fun i => decd (m.prog i) (m.hd i)) m.hands.length ≤ sumTo (fun j => (ps.getD j []).length) m.hands.length := sumTo_le fun i _ => by
    have := (f.hand i).dec_le
    unfold M.prog at this ⊢
    rw [f.progs] at this ⊢
    exact this
  rw [total_eq, ← f.hn]
  omega
/-- by a rule that is good a step leaves all safe, and nothing is stale -/
theorem Safe.step {values : List Int} {ps : List (List Deed)} {r : Rule} {m : M} {p : List Nat} {h : Nat} (S : Safe m) (L : Lin values m p) (f : Fine ps r m) (g : goodRule ps r) (hl : h < ps.length) : Safe (m.step h) ∧ (m.step h).strayed = m.strayed := by
  have hl' : h < m.hands.length := by rw [f.hn]; exact hl
  have K := f.hand h
  have fe := (f.step hl).ends_le
  have hr := f.rule
  -- the top lies in no hand that pushes
  have top_off : m.top ≠ 0 → ∀ i, pushX m i (m.hd i) → (m.hd i).cell ≠ m.top := fun t0 i hi e => by
    have := (L.cin i hi.2).2.1
    rw [e] at this
    refine this ?_
    have ch := L.ch
    cases p with
    | nil => exact absurd ch t0
    | cons c p =>
      obtain ⟨e2, _⟩ := ch
      rw [e2]
      exact List.mem_cons_self
  have top_in : m.top ≠ 0 → m.top ∈ p := fun t0 => by
    have ch := L.ch
    cases p with
    | nil => exact absurd ch t0
    | cons c p =>
      obtain ⟨e2, _⟩ := ch
      rw [e2]
      exact List.mem_cons_self
  have nopop : ∀ {v : Int}, (m.prog h)[(m.hd h).at_]? = some (.push v) → ¬ popX m h (m.hd h) := fun e z => by
    unfold popX at z
    rw [e] at z
    cases z
  have mv := move m h
  generalize (m.turn h).1 = t at mv
  generalize hm' : m.step h = m' at mv fe
  cases mv with
  | rests hd => exact ⟨S, rfl⟩
  | takesF v c hd hc hp =>
    refine ⟨?_, rfl⟩
    obtain ⟨c1, c2, c3⟩ := L.fin c (pick_mem hp)
    have nk : m.rule ≠ .keeps := fun z => by
      unfold pick at hp
      rw [if_pos z] at hp
      cases hp
    have nm : c ∉ m.marked := fun z => by
      unfold pick at hp
      rw [if_neg nk] at hp
      have := List.find?_some hp
      simp [z] at this
    refine S.upd hl' _ rfl rfl rfl (S.new h) (fun t c' e _ _ _ => absurd e (nopop hd)) (fun j t c' n e1 e2 e3 e4 => ⟨e4, fun _ => ⟨rfl, fun _ e => ?_⟩⟩) (fun k hk => ⟨(S.cnt k hk).1, fun j t c _ => (S.cnt k hk).2 j t c, fun t c => (S.cnt k hk).2 h t c⟩) (fun hs _ e => absurd e (nopop hd)) (fun hs _ e => absurd e (nopop hd))
    have e : c = t := e
    subst e
    cases er : m.rule with
    | keeps => exact nk er
    | counts k =>
      rw [er] at e4
      have e4' : c' = m.count := e4
      have et := ((S.cnt k er).2 j c c' e3).2 e4'
      exact c3 (by rw [et]; exact top_in (by omega))
    | marks hs =>
      rw [er] at e4
      obtain ⟨c'', e5⟩ := S.mrk hs er j e1 e4
      rw [e3] at e5
      have e6 : c = (m.hd j).mark := congrArg (·.1) (Option.some.inj e5)
      refine nm ?_
      unfold M.marked
      rw [List.mem_filter]
      refine ⟨List.mem_map.mpr ⟨m.hd j, ?_, e6.symm⟩, by simpa using (by omega : c ≠ 0)⟩
      by_cases hj : j < m.hands.length
      · unfold M.hd
        rw [List.getD_eq_getElem?_getD, List.getElem?_eq_getElem hj]
        exact List.getElem_mem hj
      · exfalso
        have e0 : m.hd j = {} := by
          unfold M.hd
          rw [List.getD_eq_getElem?_getD, List.getElem?_eq_none (by omega)]
          rfl
        rw [e0] at e3
        cases e3
  | takesN v hd hc hp =>
    refine ⟨?_, rfl⟩
    have hll := L.ll
    refine S.upd hl' _ rfl rfl rfl (S.new h) (fun t c' e _ _ _ => absurd e (nopop hd)) (fun j t c' n e1 e2 e3 e4 => ⟨e4, fun _ => ?_⟩) (fun k hk => ⟨(S.cnt k hk).1, fun j t c _ => (S.cnt k hk).2 j t c, fun t c => (S.cnt k hk).2 h t c⟩) (fun hs _ e => absurd e (nopop hd)) (fun hs _ e => absurd e (nopop hd))
    have tl : t ≤ m.worths.length := (f.hand j).seen _ e3
    have t1 : 1 ≤ t := (f.hand j).popC _ e1 e3
    refine ⟨by show (m.links ++ [0]).getD (t - 1) 0 = _; rw [getD_app (by omega)], fun _ e => ?_⟩
    have e : m.worths.length + 1 = t := e
    omega
  | readsQ v hd hc hs =>
    have hx : m.hd h = m.hd h := rfl
    obtain ⟨n1, n2⟩ := S.new h hs
    exact ⟨S.quiet hl' _ rfl rfl (fun e => by cases e) (fun t c e => absurd e (nopop hd)) (fun t c e => .inr (by
      have e' := Option.some.inj e
      exact ⟨(congrArg (·.1) e').symm, (congrArg (·.2) e').symm⟩)) (fun hs _ e => absurd e (nopop hd)) (fun hs _ e => absurd e (nopop hd)), rfl⟩
  | readsP hd hs ht =>
    obtain ⟨n1, n2⟩ := S.new h hs
    exact ⟨S.quiet hl' _ rfl rfl (fun e => by cases e) (fun t c _ _ e _ => by
      have e' := Option.some.inj e
      have et : m.top = t := congrArg (·.1) e'
      rw [← et]
      exact ⟨top_off ht, fun f hf => by
        have hf' : (m.hd h).follow = some f := hf
        rw [n1] at hf'
        cases hf'⟩) (fun t c e => .inr (by
      have e' := Option.some.inj e
      exact ⟨(congrArg (·.1) e').symm, (congrArg (·.2) e').symm⟩)) (fun hs _ _ e => by
        have e' : (m.hd h).looked = true := e
        rw [n2] at e'
        cases e') (fun hs _ _ _ _ e => absurd n1 e), rfl⟩
  | empty hd hs ht => exact ⟨S.ended hl' .non rfl rfl rfl rfl rfl rfl (by show _ ≤ (m.ends ++ [_]).length; rw [List.length_append]; omega), rfl⟩
  | links v s hd hc hs hf =>
    refine ⟨?_, rfl⟩
    obtain ⟨c1, c2, c3⟩ := L.cin h hc
    refine S.upd hl' _ rfl rfl rfl (fun e => by have e' : (m.hd h).seen = none := e; rw [hs] at e'; cases e') (fun t c' e _ _ _ => absurd e (nopop hd)) (fun j t c' n e1 e2 e3 e4 => ⟨e4, fun gg => ?_⟩) (fun k hk => ⟨(S.cnt k hk).1, fun j t c _ => (S.cnt k hk).2 j t c, fun t c => (S.cnt k hk).2 h t c⟩) (fun hs _ e => absurd e (nopop hd)) (fun hs _ e => absurd e (nopop hd))
    have ne := gg h ⟨⟨v, hd⟩, hc⟩
    have t1 : 1 ≤ t := (f.hand j).popC _ e1 e3
    refine ⟨?_, fun _ => ne⟩
    show (m.links.set ((m.hd h).cell - 1) s.1).getD (t - 1) 0 = _
    rw [getD_set_ne (by omega)]
  | pushed v g' hd hc hs hf =>
    refine ⟨S.exch hl' _ rfl rfl rfl rfl rfl (by show (m.ends ++ [_]).length = _; rw [List.length_append]; rfl) (fun k hk => ?_) (.inl rfl) (fun _ => ⟨rfl, rfl⟩) (fun _ e => absurd rfl e) (fun e => absurd rfl e.2) (fun _ _ _ e => by cases e), rfl⟩
    have g1 : total ps < k := by rw [hr] at hk; rw [hk] at g; exact g
    have g2 := (S.cnt k hk).1
    have g3 : m.ends.length + 1 ≤ total ps := by
      have fe' : (m.ends ++ [(h, (m.hd h).at_)]).length ≤ total ps := fe
      rw [List.length_append] at fe'
      exact fe'
    omega
  | missQ v s g' hd hc hs hf hn => exact ⟨S.quiet hl' _ rfl rfl (fun _ => ⟨rfl, rfl⟩) (fun t c _ _ e => by cases e) (fun t c e => by cases e) (fun _ _ _ e => by cases e) (fun _ _ _ _ _ e => absurd rfl e), rfl⟩
  | popped s hd hs hc => exact ⟨S.ended hl' _ rfl rfl rfl rfl rfl rfl (Nat.le_refl _), rfl⟩
  | marks s hd hs hc hn hk hm =>
    refine ⟨S.quiet hl' _ rfl rfl (S.new h) (fun t c e1 e2 e3 e4 => S.off h t c e1 e2 e3 e4) (fun t c e => .inl e) (fun hs' _ _ e => ?_) (fun hs' er e1 e2 e3 e4 => S.flw hs' er h e1 e2 e3 e4), rfl⟩
    have e' : (m.hd h).looked = true := e
    rw [hk] at e'
    cases e'
  | looksF s hd hs hc hn hk hm ht => exact ⟨S.quiet hl' _ rfl rfl (fun _ => ⟨rfl, rfl⟩) (fun t c _ _ e => by cases e) (fun t c e => by cases e) (fun _ _ _ e => by cases e) (fun _ _ _ _ _ e => absurd rfl e), rfl⟩
  | looksT s hd hs hc hn hk hm ht =>
    have isM : ∃ hs', m.rule = .marks hs' := by
      unfold Rule.named at hn
      cases er : m.rule with
      | marks hs' => exact ⟨hs', rfl⟩
      | keeps => rw [er] at hn; cases hn
      | counts k => rw [er] at hn; cases hn
    obtain ⟨hs', er⟩ := isM
    have s1 := K.popC _ hd hs
    have nf : (m.hd h).follow = none := by
      apply Classical.byContradiction
      intro z
      have := S.flw hs' er h hd hc hn z
      rw [hk] at this
      cases this
    refine ⟨S.quiet hl' _ rfl rfl (fun e => by have e' : (m.hd h).seen = none := e; rw [hs] at e'; cases e') (fun t c e1 e2 e3 e4 => ?_) (fun t c e => .inl e) (fun hs' _ _ _ => ⟨s.2, ?_⟩) (fun hs' er e1 e2 e3 e4 => rfl), rfl⟩
    · have e3' : (m.hd h).seen = some (t, c) := e3
      rw [hs] at e3'
      have es : s = (t, c) := Option.some.inj e3'
      have et : m.top = t := by rw [ht, es]
      rw [← et]
      refine ⟨top_off (by omega), fun f hf => ?_⟩
      have hf' : (m.hd h).follow = some f := hf
      rw [nf] at hf'
      cases hf'
    · show (m.hd h).seen = some ((m.hd h).mark, s.2)
      rw [hm, hs]
  | follows s hd hs hc hn hf =>
    refine ⟨S.quiet hl' _ rfl rfl (fun e => by have e' : (m.hd h).seen = none := e; rw [hs] at e'; cases e') (fun t c e1 e2 e3 e4 => ⟨(S.off h t c e1 e2 e3 e4).1, fun f' hf' => ?_⟩) (fun t c e => .inl e) (fun hs' er e1 e2 => S.mrk hs' er h e1 e2) (fun hs' er e1 e2 e3 e4 => ?_), rfl⟩
    · have e3' : (m.hd h).seen = some (t, c) := e3
      rw [hs] at e3'
      have es : s = (t, c) := Option.some.inj e3'
      have : m.links.getD (s.1 - 1) 0 = f' := Option.some.inj hf'
      rw [es] at this
      exact this
    · apply Classical.byContradiction
      intro z
      refine hn ⟨e3, ?_⟩
      have z' : ¬ (m.hd h).looked = true := z
      cases e : (m.hd h).looked with
      | true => exact absurd e z'
      | false => rfl
  | exchanges g' hd hs hc hn hf =>
    have t0 := K.popC _ hd hs
    have lkd : ∀ hs', m.rule = .marks hs' → (m.hd h).looked = true := fun hs' er => by
      have nm : m.rule.named h = true := by
        rw [hr] at er
        rw [hr, er]
        rw [er] at g
        unfold Rule.named
        have := g h hl
        simpa using this
      cases e : (m.hd h).looked with
      | true => rfl
      | false => exact absurd ⟨nm, e⟩ hn
    have off := S.off h m.top m.count hd hc hs (by
      unfold cnd
      cases er : m.rule with
      | keeps => trivial
      | counts k => rfl
      | marks hs' => exact lkd hs' er)
    have ek := off.2 g' hf
    refine ⟨?_, ?_⟩
    · refine S.exch hl' _ rfl rfl rfl rfl rfl (by show (m.ends ++ [_]).length = _; rw [List.length_append]; rfl) (fun k hk => ?_) (.inr rfl) (fun e => by have e' : (m.hd h).seen = none := e; rw [hs] at e'; cases e') (fun _ _ => by show m.top ≠ 0; omega) (fun e => ?_) (fun hs' er e1 e2 => S.mrk hs' er h e1 e2)
      · have g1 : total ps < k := by rw [hr] at hk; rw [hk] at g; exact g
        have g2 := (S.cnt k hk).1
        have g3 : m.ends.length + 1 ≤ total ps := by
          have fe' : (m.ends ++ [(h, (m.hd h).at_)]).length ≤ total ps := fe
          rw [List.length_append] at fe'
          exact fe'
        omega
      · obtain ⟨⟨v, hv⟩, _⟩ := e
        have hv' : (m.prog h)[(m.hd h).at_]? = some (.push v) := hv
        rw [hd] at hv'
        cases hv'
    · show (m.strayed || m.links.getD (m.top - 1) 0 != g') = m.strayed
      rw [ek]
      simp
  | missP s g' hd hs hc hn hf hx => exact ⟨S.quiet hl' _ rfl rfl (fun _ => ⟨rfl, rfl⟩) (fun t c _ _ e => by cases e) (fun t c e => by cases e) (fun _ _ _ e => by cases e) (fun _ _ _ _ _ e => absurd rfl e), rfl⟩
theorem Safe.begin_ (values : List Int) (ps : List (List Deed)) (r : Rule) : Safe (M.begin_ values ps r) := by
  have hd := begin_hd values ps r
  refine ⟨fun j _ => by rw [hd j]; exact ⟨rfl, rfl⟩, fun j t c _ _ e => (by rw [hd j] at e; cases e), fun k _ => ⟨Nat.le_refl _, fun j t c e => (by rw [hd j] at e; cases e)⟩, fun hs _ j _ e => (by rw [hd j] at e; cases e), fun hs _ j _ _ _ e => (by rw [hd j] at e; exact absurd rfl e)⟩
theorem Safe.run {values : List Int} {ps : List (List Deed)} {r : Rule} (g : goodRule ps r) : ∀ {w : List Nat} {m : M} {p : List Nat}, Safe m → Lin values m p → Fine ps r m → m.strayed = false → (∀ h ∈ w, h < ps.length) → (m.run w).strayed = false ∧ Safe (m.run w) ∧ ∃ p', Lin values (m.run w) p'
  | [], m, p, S, L, _, e, _ => ⟨e, S, p, L⟩
  | h :: w, m, p, S, L, f, e, hw => by
    have h1 := hw h List.mem_cons_self
    obtain ⟨S1, e1⟩ := S.step L f g h1
    have e2 : (m.step h).strayed = false := by rw [e1]; exact e
    obtain ⟨p1, L1⟩ := L.step f h1 e2
    exact S1.run g (w := w) (m := m.step h) L1 (f.step h1) e2 fun x hx => hw x (List.mem_cons_of_mem _ hx)
/-- a good rule: never stale -/
theorem never {values : List Int} {ps : List (List Deed)} {r : Rule} (ok : okIn values ps r) (g : goodRule ps r) {w : List Nat} (hw : ∀ h ∈ w, h < ps.length) : ((M.begin_ values ps r).run w).strayed = false :=
  (Safe.run g (Safe.begin_ values ps r) (Lin.begin_ values ps r) (Fine.begin_ ok) rfl hw).1
/-- whole is a run, too -/
theorem finish_run : ∀ (n : Nat) (m : M), ∃ w : List Nat, M.finish n m = m.run w ∧ ∀ h ∈ w, h < m.hands.length
  | 0, m => ⟨[], rfl, fun _ h => by cases h⟩
  | n + 1, m => by
    unfold M.finish
    split
    · exact ⟨[], rfl, fun _ h => by cases h⟩
    · obtain ⟨w, e, hw⟩ := finish_run n m.round
      have el : m.round.hands.length = m.hands.length := by
        have go : ∀ (w : List Nat) (m : M), (m.run w).hands.length = m.hands.length := by
          intro w
          induction w with
          | nil => intro m; rfl
          | cons h w ih =>
            intro m
            have := ih (m.step h)
            exact this.trans (step_progs m h).2.2.1
        exact go _ m
      refine ⟨List.range m.hands.length ++ w, ?_, fun h hh => ?_⟩
      · rw [run_append]
        exact e
      · rcases List.mem_append.mp hh with z | z
        · exact List.mem_range.mp z
        · rw [← el]
          exact hw h z
theorem whole_run {values : List Int} {ps : List (List Deed)} {r : Rule} {w : List Nat} (hw : ∀ h ∈ w, h < ps.length) (ok : okIn values ps r) : ∃ w' : List Nat, wholeM values ps r w = (M.begin_ values ps r).run (w ++ w') ∧ ∀ h ∈ w ++ w', h < ps.length := by
  obtain ⟨w', e, h'⟩ := finish_run 1000 ((M.begin_ values ps r).run w)
  refine ⟨w', ?_, fun h hh => ?_⟩
  · rw [run_append]
    exact e
  · rcases List.mem_append.mp hh with z | z
    · exact hw h z
    · rw [← ((Fine.begin_ ok).run hw).hn]
      exact h' h z
end SS

set_option linter.all false
/-! Each cell once. -/
namespace SS
def M.heldL (m : M) : List Nat := (m.hands.map (·.cell)).filter fun c => decide (0 < c)
theorem held_nodup : ∀ (hs : List Hd), (∀ (i j : Nat) (x y : Hd), i ≠ j → hs[i]? = some x → hs[j]? = some y → x.cell ≠ 0 → x.cell ≠ y.cell) → ((hs.map (·.cell)).filter fun c => decide (0 < c)).Nodup
  | [], _ => List.nodup_nil
  | x :: hs, h => by
    have ih := held_nodup hs fun i j a b n e1 e2 => h (i + 1) (j + 1) a b (by omega) (by simpa using e1) (by simpa using e2)
    rw [List.map_cons, List.filter_cons]
    split
    · next hx =>
      have hx' : x.cell ≠ 0 := by
        have := of_decide_eq_true hx
        omega
      refine List.nodup_cons.mpr ⟨fun hm => ?_, ih⟩
      obtain ⟨hm1, _⟩ := List.mem_filter.mp hm
      obtain ⟨y, hy, e⟩ := List.mem_map.mp hm1
      obtain ⟨j, hj⟩ := List.mem_iff_getElem?.mp hy
      exact h 0 (j + 1) x y (by omega) rfl (by simpa using hj) hx' e.symm
    · exact ih
theorem hd_of {m : M} {i : Nat} {x : Hd} (h : m.hands[i]? = some x) : m.hd i = x := by
  unfold M.hd
  rw [List.getD_eq_getElem?_getD, h]
  rfl
theorem hd_cell_mem {m : M} {j : Nat} (h : (m.hd j).cell ≠ 0) : (m.hd j).cell ∈ m.heldL := by
  unfold M.heldL
  rw [List.mem_filter]
  refine ⟨List.mem_map.mpr ⟨m.hd j, ?_, rfl⟩, decide_eq_true (by omega)⟩
  by_cases hj : j < m.hands.length
  · unfold M.hd
    rw [List.getD_eq_getElem?_getD, List.getElem?_eq_getElem hj]
    exact List.getElem_mem hj
  · exfalso
    apply h
    unfold M.hd
    rw [List.getD_eq_getElem?_getD, List.getElem?_eq_none (by omega)]
    rfl
theorem held_mem {m : M} {c : Nat} (h : c ∈ m.heldL) : ∃ j, j < m.hands.length ∧ (m.hd j).cell = c ∧ c ≠ 0 := by
  unfold M.heldL at h
  obtain ⟨h1, h2⟩ := List.mem_filter.mp h
  obtain ⟨x, hx, e⟩ := List.mem_map.mp h1
  obtain ⟨j, hj⟩ := List.mem_iff_getElem?.mp hx
  have := of_decide_eq_true h2
  exact ⟨j, (List.getElem?_eq_some_iff.mp hj).1, by rw [hd_of hj]; exact e, by omega⟩
theorem Lin.held {values : List Int} {m : M} {p : List Nat} (L : Lin values m p) : m.heldL.Nodup := by
  refine held_nodup _ fun i j x y n e1 e2 => ?_
  have := L.cne i j n
  rw [hd_of e1, hd_of e2] at this
  exact this
/-- pile, free cells, cells in hands: all cells, each once -/
theorem Lin.cells {values : List Int} {m : M} {p : List Nat} (L : Lin values m p) : (p ++ m.freed ++ m.heldL).Perm ((List.range m.worths.length).map (· + 1)) := by
  have nd1 : (p ++ m.freed ++ m.heldL).Nodup := by
    rw [List.nodup_append, List.nodup_append]
    refine ⟨⟨L.nd, L.fd, fun a ha b hb e => ?_⟩, L.held, fun a ha b hb e => ?_⟩
    · subst e
      exact (L.fin a hb).2.2 ha
    · subst e
      obtain ⟨j, _, hj, h0⟩ := held_mem hb
      obtain ⟨_, g2, g3⟩ := L.cin j (by rw [hj]; exact h0)
      rw [hj] at g2 g3
      rcases List.mem_append.mp ha with z | z
      · exact g2 z
      · exact g3 z
  have nd2 : ((List.range m.worths.length).map (· + 1)).Nodup := by
    rw [List.nodup_iff_pairwise_ne, List.pairwise_map]
    exact List.nodup_range.imp fun h e => h (by omega)
  rw [List.perm_ext_iff_of_nodup nd1 nd2]
  intro c
  constructor
  · intro h
    have : 1 ≤ c ∧ c ≤ m.worths.length := by
      rcases List.mem_append.mp h with z | z
      · rcases List.mem_append.mp z with z | z
        · exact L.pin c z
        · exact ⟨(L.fin c z).1, (L.fin c z).2.1⟩
      · obtain ⟨j, _, hj, h0⟩ := held_mem z
        have := (L.cin j (by rw [hj]; exact h0)).1
        omega
    exact List.mem_map.mpr ⟨c - 1, List.mem_range.mpr (by omega), by omega⟩
  · intro h
    obtain ⟨i, hi, e⟩ := List.mem_map.mp h
    have hi' := List.mem_range.mp hi
    rcases L.cov c (by omega) (by omega) with z | z | ⟨j, z⟩
    · exact List.mem_append_left _ (List.mem_append_left _ z)
    · exact List.mem_append_left _ (List.mem_append_right _ z)
    · refine List.mem_append_right _ ?_
      rw [← z]
      exact hd_cell_mem (by omega)
theorem Lin.sorted {values : List Int} {m : M} {p : List Nat} (L : Lin values m p) {ns : List Int} (h1 : ns.Perm ((p ++ m.freed ++ m.heldL).map Int.ofNat)) (h2 : ns.Pairwise (· ≤ ·)) : ns = (List.range m.worths.length).map fun i => (1 : Int) + (i : Nat) := by
  have h3 := h1.trans (L.cells.map Int.ofNat)
  rw [List.map_map] at h3
  have e : ((List.range m.worths.length).map (Int.ofNat ∘ fun x => x + 1)) = (List.range m.worths.length).map fun i => (1 : Int) + (i : Nat) := by
    refine List.map_congr_left fun i _ => ?_
    show ((i + 1 : Nat) : Int) = 1 + (i : Int)
    omega
  rw [e] at h3
  refine List.Perm.eq_of_pairwise (le := (· ≤ ·)) (fun a b _ _ h h' => Int.le_antisymm h h') h2 ?_ h3
  rw [List.pairwise_map]
  exact List.pairwise_lt_range.imp fun h => by omega
end SS

set_option linter.all false
/-! The order in which deeds are decided; what is lost, what not. -/
namespace SS
/-- each deed of a hand is decided once, in its order; a push is answered done, a pop never -/
structure Ordn (m : M) : Prop where
  ord : ∀ j, m.ends.filter (fun e => e.1 == j) = (List.range (decd (m.prog j) (m.hd j))).map fun k => (j, k)
  fst : ∀ e ∈ m.ends, e.1 < m.hands.length
  word : ∀ (j k : Nat) (a : Ans), (m.hd j).said[k]? = some a → ∃ d : Deed, (m.prog j)[k]? = some d ∧ ((∃ v, d = Deed.push v) ↔ a = Ans.done)
theorem word_snoc {p : List Deed} {x : Hd} {a : Ans} {d : Deed} (hs : x.said.length = x.at_) (w : ∀ (k : Nat) (b : Ans), x.said[k]? = some b → ∃ d : Deed, p[k]? = some d ∧ ((∃ v, d = Deed.push v) ↔ b = Ans.done)) (hd : p[x.at_]? = some d) (hw : (∃ v, d = Deed.push v) ↔ a = Ans.done) :
    ∀ (k : Nat) (b : Ans), (x.ended a).said[k]? = some b → ∃ d : Deed, p[k]? = some d ∧ ((∃ v, d = Deed.push v) ↔ b = Ans.done) := by
  intro k b h
  have h' : (x.said ++ [a])[k]? = some b := h
  rw [List.getElem?_append] at h'
  split at h'
  · exact w k b h'
  · next hk =>
    have hk1 : k - x.said.length < 1 := by
      have := (List.getElem?_eq_some_iff.mp h').1
      simpa using this
    have ek : k = x.at_ := by omega
    subst ek
    rw [hs, Nat.sub_self] at h'
    have eb : a = b := by simpa using h'
    subst eb
    exact ⟨d, hd, hw⟩
theorem Ordn.upd {m m1 : M} {h : Nat} {x : Hd} (O : Ordn m) (hl : h < m.hands.length) (eh : m1.hands = m.hands) (ep : m1.progs = m.progs)
    (he : (m1.ends = m.ends ∧ decd (m.prog h) x = decd (m.prog h) (m.hd h)) ∨ (m1.ends = m.ends ++ [(h, (m.hd h).at_)] ∧ decd (m.prog h) (m.hd h) = (m.hd h).at_ ∧ decd (m.prog h) x = (m.hd h).at_ + 1))
    (hw : ∀ (k : Nat) (b : Ans), x.said[k]? = some b → ∃ d : Deed, (m.prog h)[k]? = some d ∧ ((∃ v, d = Deed.push v) ↔ b = Ans.done)) : Ordn (m1.setH h x) := by
  have H := set_hh (x := x) eh hl
  have N := fun j n => set_hn (x := x) eh hl (j := j) n
  have P : ∀ j, (m1.setH h x).prog j = m.prog j := fun j => by show m1.progs.getD j [] = m.progs.getD j []; rw [ep]
  have E : (m1.setH h x).ends = m1.ends := rfl
  have L : (m1.setH h x).hands.length = m.hands.length := by rw [M.setH_len, eh]
  generalize m1.setH h x = m2 at H N P E L ⊢
  have dn : ∀ j, j ≠ h → decd (m2.prog j) (m2.hd j) = decd (m.prog j) (m.hd j) := fun j n => by rw [P, N j n]
  have dh : decd (m2.prog h) (m2.hd h) = decd (m.prog h) x := by rw [P, H]
  refine ⟨fun j => ?_, fun e hm => ?_, fun j k a hs => ?_⟩
  · rcases he with ⟨e1, e2⟩ | ⟨e1, e2, e3⟩
    · rw [E, e1, O.ord j]
      by_cases z : j = h
      · subst z
        rw [dh, e2]
      · rw [dn j z]
    · rw [E, e1]
      exact ord_snoc (d := fun j => decd (m.prog j) (m.hd j)) (d' := fun j => decd (m2.prog j) (m2.hd j)) O.ord e2 (by show decd (m2.prog h) (m2.hd h) = _; rw [dh]; exact e3) (fun j n => dn j n) j
  · rw [E] at hm
    rw [L]
    rcases he with ⟨e1, _⟩ | ⟨e1, _⟩
    · rw [e1] at hm
      exact O.fst e hm
    · rw [e1] at hm
      rcases List.mem_append.mp hm with z | z
      · exact O.fst e z
      · have : e = (h, (m.hd h).at_) := by simpa using z
        rw [this]
        exact hl
  · by_cases z : j = h
    · subst z
      rw [H] at hs
      rw [P]
      exact hw k a hs
    · rw [N j z] at hs
      rw [P]
      exact O.word j k a hs
theorem Ordn.step {ps : List (List Deed)} {r : Rule} {m : M} {h : Nat} (O : Ordn m) (f : Fine ps r m) (hl : h < ps.length) : Ordn (m.step h) := by
  have hl' : h < m.hands.length := by rw [f.hn]; exact hl
  have K := f.hand h
  have W := O.word h
  have mv := move m h
  generalize (m.turn h).1 = t at mv
  generalize hm' : m.step h = m' at mv
  have q : ∀ (m1 : M) (x : Hd), m1.hands = m.hands → m1.progs = m.progs → m1.ends = m.ends → x.at_ = (m.hd h).at_ → x.cell = (m.hd h).cell → x.said = (m.hd h).said → Ordn (m1.setH h x) := fun m1 x e1 e2 e3 a c s => O.upd hl' e1 e2 (.inl ⟨e3, decd_eq a c⟩) (by rw [s]; exact W)
  cases mv with
  | rests hd => exact O
  | takesF v c hd hc hp => exact O.upd hl' rfl rfl (.inl ⟨rfl, by rw [decd_push hd, decd_push (x := { m.hd h with cell := c }) hd]⟩) W
  | takesN v hd hc hp => exact O.upd hl' rfl rfl (.inl ⟨rfl, by rw [decd_push hd, decd_push (x := { m.hd h with cell := m.worths.length + 1 }) hd]⟩) W
  | readsQ v hd hc hs => exact q _ _ rfl rfl rfl rfl rfl rfl
  | readsP hd hs ht => exact q _ _ rfl rfl rfl rfl rfl rfl
  | empty hd hs ht =>
    have hc : (m.hd h).cell = 0 := by
      apply Classical.byContradiction
      exact fun z => K.popS hd z hs
    exact O.upd hl' rfl rfl (.inr ⟨rfl, decd_zero hc, decd_ended⟩) (word_snoc K.said W hd ⟨fun ⟨v, e⟩ => (by cases e), fun e => (by cases e)⟩)
  | links v s hd hc hs hf => exact q _ _ rfl rfl rfl rfl rfl rfl
  | pushed v g hd hc hs hf => exact O.upd hl' rfl rfl (.inr ⟨rfl, decd_push hd, decd_ended⟩) (word_snoc K.said W hd ⟨fun _ => rfl, fun _ => ⟨v, rfl⟩⟩)
  | missQ v s g hd hc hs hf hn => exact q _ _ rfl rfl rfl rfl rfl rfl
  | popped s hd hs hc => exact O.upd hl' rfl rfl (.inl ⟨rfl, by rw [decd_pop hd hc, decd_ended]⟩) (word_snoc K.said W hd ⟨fun ⟨v, e⟩ => (by cases e), fun e => (by cases e)⟩)
  | marks s hd hs hc hn hk hm => exact q _ _ rfl rfl rfl rfl rfl rfl
  | looksF s hd hs hc hn hk hm ht => exact q _ _ rfl rfl rfl rfl rfl rfl
  | looksT s hd hs hc hn hk hm ht => exact q _ _ rfl rfl rfl rfl rfl rfl
  | follows s hd hs hc hn hf => exact q _ _ rfl rfl rfl rfl rfl rfl
  | exchanges g hd hs hc hn hf =>
    have t0 : m.top ≠ 0 := by have := K.popC _ hd hs; omega
    exact O.upd hl' rfl rfl (.inr ⟨rfl, decd_zero hc, decd_pop (x := { m.hd h with cell := m.top }) hd t0⟩) W
  | missP s g hd hs hc hn hf hx => exact q _ _ rfl rfl rfl rfl rfl rfl
theorem Ordn.begin_ (values : List Int) (ps : List (List Deed)) (r : Rule) : Ordn (M.begin_ values ps r) := by
  have hd := begin_hd values ps r
  refine ⟨fun j => ?_, fun e h => (by cases h), fun j k a h => (by rw [hd j] at h; cases k <;> cases h)⟩
  rw [hd j, decd_zero rfl]
  rfl
theorem Ordn.run {ps : List (List Deed)} {r : Rule} : ∀ {w : List Nat} {m : M}, Ordn m → Fine ps r m → (∀ h ∈ w, h < ps.length) → Ordn (m.run w)
  | [], m, O, _, _ => O
  | h :: w, m, O, f, hw => (O.step f (hw h List.mem_cons_self)).run (f.step (hw h List.mem_cons_self)) fun x hx => hw x (List.mem_cons_of_mem _ hx)
/-- all of a list, hand by hand -/
theorem perm_hands {α : Type} (g : α → Nat) : ∀ (n : Nat) (l : List α), (∀ x ∈ l, g x < n) → l.Perm ((List.range n).flatMap fun j => l.filter fun x => g x == j)
  | 0, l, h => by
    cases l with
    | nil => exact .refl _
    | cons x l => exact absurd (h x List.mem_cons_self) (by omega)
  | n + 1, l, h => by
    rw [List.range_succ, List.flatMap_append]
    have ih := perm_hands g n (l.filter fun x => decide (g x < n)) fun x hx => of_decide_eq_true (List.mem_filter.mp hx).2
    have e1 : ((List.range n).flatMap fun j => (l.filter fun x => decide (g x < n)).filter fun x => g x == j) = (List.range n).flatMap fun j => l.filter fun x => g x == j := by
      rw [List.flatMap_def, List.flatMap_def]
      congr 1
      refine List.map_congr_left fun j hj => ?_
      have hj' := List.mem_range.mp hj
      rw [List.filter_filter]
      refine List.filter_congr fun x _ => ?_
      by_cases e : g x = j
      · rw [e]
        simp [hj']
      · have : (g x == j) = false := beq_eq_false_iff_ne.mpr e
        simp [this]
    rw [e1] at ih
    have e2 : ([n].flatMap fun j => l.filter fun x => g x == j) = l.filter fun x => !decide (g x < n) := by
      simp only [List.flatMap_cons, List.flatMap_nil, List.append_nil]
      refine List.filter_congr fun x hx => ?_
      have := h x hx
      by_cases e : g x = n
      · rw [e]
        simp
      · have h2 : g x < n := by omega
        have : (g x == n) = false := beq_eq_false_iff_ne.mpr e
        rw [this, decide_eq_true h2]
        rfl
    rw [e2]
    exact (List.filter_append_perm (fun x => decide (g x < n)) l).symm.trans (ih.append_right _)
theorem Ordn.full {m : M} (O : Ordn m) {j : Nat} (hr : m.rests j = true) : m.ends.filter (fun e => e.1 == j) = (List.range (m.prog j).length).map fun k => (j, k) := by
  have hat : (m.hd j).at_ = (m.prog j).length := eq_of_beq hr
  have : decd (m.prog j) (m.hd j) = (m.prog j).length := by
    unfold decd
    rw [hat, List.getElem?_eq_none (Nat.le_refl _), if_neg (fun z => by cases z.1)]
    rfl
  rw [O.ord j, this]
def dueOf (ps : List (List Deed)) (n : Nat) : List (Nat × Nat) := (List.range n).flatMap fun j => (List.range (ps.getD j []).length).map fun k => (j, k)
theorem done_rests {m : M} (h : m.isDone = true) {j : Nat} (hj : j < m.hands.length) : m.rests j = true := by
  unfold M.isDone at h
  rw [List.all_eq_true] at h
  exact h j (List.mem_range.mpr hj)
theorem fine_prog {ps : List (List Deed)} {r : Rule} {m : M} (f : Fine ps r m) (j : Nat) : m.prog j = ps.getD j [] := by
  unfold M.prog
  rw [f.progs]
theorem Ordn.due {ps : List (List Deed)} {r : Rule} {m : M} (O : Ordn m) (f : Fine ps r m) (hd : m.isDone = true) : m.ends.Perm (dueOf ps ps.length) := by
  have h := perm_hands (fun e : Nat × Nat => e.1) ps.length m.ends (by rw [← f.hn]; exact O.fst)
  have e : ((List.range ps.length).flatMap fun j => m.ends.filter fun x => x.1 == j) = dueOf ps ps.length := by
    unfold dueOf
    rw [List.flatMap_def, List.flatMap_def]
    congr 1
    refine List.map_congr_left fun j hj => ?_
    have hj' := List.mem_range.mp hj
    rw [O.full (done_rests hd (by rw [f.hn]; exact hj')), fine_prog f]
  rw [e] at h
  exact h
/-! ### pairs in their order -/
def ltN (a b : Nat × Nat) : Prop := a.1 < b.1 ∨ (a.1 = b.1 ∧ a.2 < b.2)
theorem due_sorted (ps : List (List Deed)) : ∀ n, (dueOf ps n).Pairwise ltN ∧ ∀ e ∈ dueOf ps n, e.1 < n
  | 0 => ⟨.nil, fun e h => by cases h⟩
  | n + 1 => by
    obtain ⟨h1, h2⟩ := due_sorted ps n
    have e : dueOf ps (n + 1) = dueOf ps n ++ (List.range (ps.getD n []).length).map fun k => (n, k) := by
      unfold dueOf
      rw [List.range_succ, List.flatMap_append]
      simp
    rw [e]
    refine ⟨?_, fun x hx => ?_⟩
    · rw [List.pairwise_append]
      refine ⟨h1, ?_, fun a ha b hb => ?_⟩
      · rw [List.pairwise_map]
        exact List.pairwise_lt_range.imp fun h => .inr ⟨rfl, h⟩
      · obtain ⟨k, _, rfl⟩ := List.mem_map.mp hb
        exact .inl (h2 a ha)
    · rcases List.mem_append.mp hx with z | z
      · have := h2 x z
        omega
      · obtain ⟨k, _, rfl⟩ := List.mem_map.mp z
        show n < n + 1
        omega
theorem ltN_asymm {a b : Nat × Nat} (h : ltN a b) (h' : ltN b a) : False := by
  unfold ltN at h h'
  omega
theorem leN_antisymm {a b : Nat × Nat} (h : ¬ ltN b a) (h' : ¬ ltN a b) : a = b := by
  unfold ltN at h h'
  have e1 : a.1 = b.1 := by omega
  have e2 : a.2 = b.2 := by omega
  exact Prod.ext e1 e2
/-- sorted is the due order -/
theorem sorted_due {ps : List (List Deed)} {l : List (Nat × Nat)} (h : l.Perm (dueOf ps ps.length)) (hs : l.Pairwise fun a b => ¬ ltN b a) : l = dueOf ps ps.length := by
  refine List.Perm.eq_of_pairwise (le := fun a b => ¬ ltN b a) (fun a b _ _ h h' => leN_antisymm h h') hs ?_ h
  exact (due_sorted ps ps.length).1.imp fun h h' => ltN_asymm h h'
/-! ### nothing is lost -/
def pushes : List Deed → List Int
  | [] => []
  | .push v :: ds => v :: pushes ds
  | .pop :: ds => pushes ds
def valsOf : List Ans → List Int
  | [] => []
  | .val v :: as => v :: valsOf as
  | _ :: as => valsOf as
theorem pushes_app : ∀ a b, pushes (a ++ b) = pushes a ++ pushes b
  | [], b => rfl
  | .push v :: a, b => by show v :: pushes (a ++ b) = v :: (pushes a ++ pushes b); rw [pushes_app a b]
  | .pop :: a, b => pushes_app a b
theorem valsOf_app : ∀ a b, valsOf (a ++ b) = valsOf a ++ valsOf b
  | [], b => rfl
  | .val v :: a, b => by show v :: valsOf (a ++ b) = v :: (valsOf a ++ valsOf b); rw [valsOf_app a b]
  | .non :: a, b => valsOf_app a b
  | .done :: a, b => valsOf_app a b
theorem pushes_perm {a b : List Deed} (h : a.Perm b) : (pushes a).Perm (pushes b) := by
  induction h with
  | nil => exact .refl _
  | cons x _ ih =>
    cases x with
    | push v => exact ih.cons v
    | pop => exact ih
  | swap x y l =>
    cases x <;> cases y
    · exact .refl _
    · exact .refl _
    · exact .refl _
    · exact .swap ..
  | trans _ _ h1 h2 => exact h1.trans h2
theorem valsOf_perm {a b : List Ans} (h : a.Perm b) : (valsOf a).Perm (valsOf b) := by
  induction h with
  | nil => exact .refl _
  | cons x _ ih =>
    cases x with
    | val v => exact ih.cons v
    | non => exact ih
    | done => exact ih
  | swap x y l =>
    cases x <;> cases y <;> first | exact .refl _ | exact .swap ..
  | trans _ _ h1 h2 => exact h1.trans h2
theorem serial_perm (values : List Int) : ∀ ds : List Deed, (values ++ pushes ds).Perm (valsOf (serial values ds).1 ++ (serial values ds).2) := by
  have go : ∀ (l : List Deed), (values ++ pushes l.reverse).Perm (valsOf (serial values l.reverse).1 ++ (serial values l.reverse).2) := by
    intro l
    induction l with
    | nil =>
      show (values ++ []).Perm ([] ++ values)
      rw [List.append_nil]
      exact .refl _
    | cons d l ih =>
      rw [List.reverse_cons, serial_snoc, pushes_app]
      generalize serial values l.reverse = z at ih ⊢
      cases d with
      | push v =>
        show (values ++ (pushes l.reverse ++ [v])).Perm (valsOf (z.1 ++ [.done]) ++ (z.2 ++ [v]))
        rw [valsOf_app, ← List.append_assoc, ← List.append_assoc]
        show (values ++ pushes l.reverse ++ [v]).Perm (valsOf z.1 ++ [] ++ z.2 ++ [v])
        rw [List.append_nil]
        exact ih.append_right _
      | pop =>
        show (values ++ (pushes l.reverse ++ [])).Perm _
        rw [List.append_nil]
        unfold serialStep
        cases e : z.2.getLast? with
        | none =>
          show (values ++ pushes l.reverse).Perm (valsOf (z.1 ++ [.non]) ++ z.2)
          rw [valsOf_app]
          show (values ++ pushes l.reverse).Perm (valsOf z.1 ++ [] ++ z.2)
          rw [List.append_nil]
          exact ih
        | some v =>
          show (values ++ pushes l.reverse).Perm (valsOf (z.1 ++ [.val v]) ++ z.2.dropLast)
          rw [valsOf_app]
          show (values ++ pushes l.reverse).Perm (valsOf z.1 ++ [v] ++ z.2.dropLast)
          have e2 : z.2 = z.2.dropLast ++ [v] := by
            cases hz : z.2 with
            | nil => rw [hz] at e; cases e
            | cons a t =>
              rw [hz] at e
              have := List.dropLast_concat_getLast (l := a :: t) (by simp)
              rw [List.getLast?_eq_some_getLast (by simp)] at e
              rw [← Option.some.inj e]
              exact this.symm
          refine ih.trans ?_
          rw [List.append_assoc]
          refine List.Perm.append_left _ ?_
          rw [e2, List.dropLast_concat]
          exact List.perm_append_comm
  intro ds
  have := go ds.reverse
  rwa [List.reverse_reverse] at this
/-- where all is done, the i-th answer of serial is that of the deed that is the i-th one -/
theorem ans_at {es : List (Nat × Nat)} {as : List Ans} (hl : es.length = as.length) {full : Nat → List Ans} {n : Nat → Nat} (ho : ∀ j, es.filter (fun e => e.1 == j) = (List.range (n j)).map fun k => (j, k)) (ha : ∀ j, ansOf j es as = full j) {i j k : Nat} (hi : es[i]? = some (j, k)) : as[i]? = (full j)[k]? := by
  have hil : i < es.length := (List.getElem?_eq_some_iff.mp hi).1
  obtain ⟨a, hai⟩ : ∃ a, as[i]? = some a := ⟨_, List.getElem?_eq_getElem (by omega)⟩
  have hz : ((j, k), a) ∈ (es.zip as).filter fun e => e.1.1 == j := by
    rw [List.mem_filter]
    refine ⟨List.mem_of_getElem? (i := i) ?_, by simp⟩
    rw [List.getElem?_zip_eq_some]
    exact ⟨hi, hai⟩
  obtain ⟨k', hk'⟩ := List.mem_iff_getElem?.mp hz
  have m1 : ((es.zip as).filter fun e => e.1.1 == j).map (·.1) = es.filter fun e => e.1 == j := by
    have : ∀ (es : List (Nat × Nat)) (as : List Ans), es.length = as.length → ((es.zip as).filter fun e => e.1.1 == j).map (·.1) = es.filter fun e => e.1 == j := by
      intro es
      induction es with
      | nil => intro as _; rfl
      | cons e es ih =>
        intro as h
        cases as with
        | nil => cases h
        | cons a as =>
          have ih' := ih as (Nat.succ.inj h)
          rw [List.zip_cons_cons, List.filter_cons, List.filter_cons]
          by_cases z : (e.1 == j) = true
          · rw [if_pos z, if_pos z, List.map_cons, ih']
          · rw [if_neg z, if_neg z, ih']
    exact this es as hl
  have g1 : (es.filter fun e => e.1 == j)[k']? = some (j, k) := by rw [← m1, List.getElem?_map, hk']; rfl
  rw [ho j, List.getElem?_map] at g1
  have ek : k' = k := by
    cases e : (List.range (n j))[k']? with
    | none => rw [e] at g1; cases g1
    | some x =>
      rw [e] at g1
      have hx : x = k' := by
        obtain ⟨h1, h2⟩ := List.getElem?_eq_some_iff.mp e
        rw [List.getElem_range] at h2
        exact h2.symm
      have : (j, x) = (j, k) := Option.some.inj g1
      have := congrArg (·.2) this
      rw [← hx]
      exact this
  have g2 : (ansOf j es as)[k']? = some a := by
    unfold ansOf
    rw [List.getElem?_map, hk']
    rfl
  rw [ha j, ek] at g2
  rw [hai, g2]
theorem Lin.run_from {values : List Int} {ps : List (List Deed)} {r : Rule} {w : List Nat} (ok : okIn values ps r) (hw : ∀ h ∈ w, h < ps.length) (e : ((M.begin_ values ps r).run w).strayed = false) : ∃ p, Lin values ((M.begin_ values ps r).run w) p :=
  (Lin.begin_ values ps r).run (Fine.begin_ ok) hw e
/-- what whole leaves -/
theorem whole_facts {values : List Int} {ps : List (List Deed)} {r : Rule} {w : List Nat} (ok : okIn values ps r) (hw : ∀ h ∈ w, h < ps.length) : Fine ps r (wholeM values ps r w) ∧ (wholeM values ps r w).isDone = true ∧ Ordn (wholeM values ps r w) ∧ (goodRule ps r → (wholeM values ps r w).strayed = false) ∧ ((wholeM values ps r w).strayed = false → ∃ p, Lin values (wholeM values ps r w) p) := by
  have f1 := (Fine.begin_ ok).run hw
  obtain ⟨h1, h2⟩ := f1.finish (n := 1000) f1.mu_le
  obtain ⟨w', e, hw'⟩ := whole_run hw ok
  refine ⟨h1, h2, ?_, fun g => ?_, fun s => ?_⟩
  · rw [e]
    exact (Ordn.begin_ values ps r).run (Fine.begin_ ok) hw'
  · rw [e]
    exact never ok g hw'
  · rw [e] at s ⊢
    exact Lin.run_from ok hw' s
end SS

set_option linter.all false
/-! What is pushed and popped: as many as there were. -/
namespace SS
theorem getD_get {α : Type} {l : List α} {i : Nat} {a d : α} (h : l[i]? = some a) : l.getD i d = a := by
  rw [List.getD_eq_getElem?_getD, h]
  rfl
theorem range_get {α β : Type} (f : Nat → α → β) (d : α) : ∀ l : List α, ((List.range l.length).map fun k => f k (l.getD k d)) = l.mapIdx f := by
  intro l
  refine List.ext_getElem? fun i => ?_
  rw [List.getElem?_map, List.getElem?_mapIdx]
  by_cases h : i < l.length
  · rw [List.getElem?_range h, List.getElem?_eq_getElem h]
    show some (f i (l.getD i d)) = some (f i l[i])
    rw [getD_get (List.getElem?_eq_getElem h)]
  · rw [List.getElem?_eq_none (by rw [List.length_range]; omega), List.getElem?_eq_none (by omega)]
    rfl
theorem range_getD {α : Type} (d : α) (l : List α) : ((List.range l.length).map fun k => l.getD k d) = l := by
  rw [range_get (fun _ a => a) d l]
  refine List.ext_getElem? fun i => ?_
  rw [List.getElem?_mapIdx]
  cases l[i]? <;> rfl
theorem due_map (ps : List (List Deed)) : (dueOf ps ps.length).map (fun e => (ps.getD e.1 []).getD e.2 .pop) = ps.flatten := by
  unfold dueOf
  rw [List.flatMap_def, List.map_flatten, List.map_map]
  have : (List.range ps.length).map ((List.map fun e : Nat × Nat => (ps.getD e.1 []).getD e.2 Deed.pop) ∘ fun j => (List.range (ps.getD j []).length).map fun k => (j, k)) = ps := by
    refine Eq.trans ?_ (range_getD [] ps)
    refine List.map_congr_left fun j _ => ?_
    show ((List.range (ps.getD j []).length).map fun k => (j, k)).map _ = _
    rw [List.map_map]
    exact range_getD .pop (ps.getD j [])
  rw [this]
variable {values : List Int} {ps : List (List Deed)} {r : Rule} {m : M} {p : List Nat}
theorem done_at (f : Fine ps r m) (hd : m.isDone = true) {j : Nat} (hj : j < ps.length) : (m.hd j).at_ = (ps.getD j []).length := by
  have := done_rests hd (j := j) (by rw [f.hn]; exact hj)
  rw [← fine_prog f]
  exact eq_of_beq this
theorem done_said (f : Fine ps r m) (hd : m.isDone = true) {j : Nat} (hj : j < ps.length) : (m.hd j).said.length = (ps.getD j []).length := by
  rw [← done_at f hd hj]
  exact (f.good.hand j (by rw [f.hn]; exact hj)).said
theorem done_full (f : Fine ps r m) (hd : m.isDone = true) {j : Nat} (hj : j < ps.length) : m.full j = (m.hd j).said := by
  have e : (m.prog j)[(m.hd j).at_]? = none := by
    rw [fine_prog f, done_at f hd hj]
    exact List.getElem?_eq_none (Nat.le_refl _)
  unfold M.full M.pend
  rw [e, if_neg (fun z => by cases z.1), List.append_nil]
theorem deeds_perm (f : Fine ps r m) (hd : m.isDone = true) (O : Ordn m) : m.deeds.Perm ps.flatten := by
  have h := (O.due f hd).map fun e : Nat × Nat => (ps.getD e.1 []).getD e.2 Deed.pop
  rw [due_map] at h
  have e : m.deeds = m.ends.map fun e : Nat × Nat => (ps.getD e.1 []).getD e.2 Deed.pop := by
    unfold M.deeds
    exact List.map_congr_left fun e _ => by rw [fine_prog f]
  rw [e]
  exact h
theorem zip_snd {α β : Type} : ∀ (a : List α) (b : List β), a.length = b.length → (a.zip b).map (·.2) = b
  | [], [], _ => rfl
  | x :: a, y :: b, h => by
    rw [List.zip_cons_cons, List.map_cons, zip_snd a b (Nat.succ.inj h)]
  | [], _ :: _, h => by cases h
  | _ :: _, [], h => by cases h
theorem answers_perm (f : Fine ps r m) (hd : m.isDone = true) (O : Ordn m) (L : Lin values m p) : (serial values m.deeds).1.Perm (m.hands.flatMap (·.said)) := by
  have hl := deeds_len m values
  have h := perm_hands (fun e : (Nat × Nat) × Ans => e.1.1) ps.length (m.ends.zip (serial values m.deeds).1) (fun e he => by
    rw [← f.hn]
    exact O.fst _ (List.of_mem_zip he).1)
  have h2 := h.map (·.2)
  rw [zip_snd _ _ hl, List.map_flatMap] at h2
  have e : ((List.range ps.length).flatMap fun j => ((m.ends.zip (serial values m.deeds).1).filter fun x => x.1.1 == j).map (·.2)) = m.hands.flatMap (·.said) := by
    have e1 : (List.range ps.length).map (fun j => ((m.ends.zip (serial values m.deeds).1).filter fun x => x.1.1 == j).map (·.2)) = m.hands.map (·.said) := by
      have e2 : m.hands.map (·.said) = (List.range ps.length).map fun j => (m.hd j).said := by
        rw [← f.hn]
        refine (congrArg (List.map fun x : Hd => x.said) (range_getD {} m.hands).symm).trans ?_
        rw [List.map_map]
        rfl
      rw [e2]
      refine List.map_congr_left fun j hj => ?_
      have hj' := List.mem_range.mp hj
      rw [← done_full f hd hj', ← L.ans j]
      rfl
    rw [List.flatMap_def, e1, List.flatMap_def]
  rw [e] at h2
  exact h2
theorem lost_perm (f : Fine ps r m) (hd : m.isDone = true) (O : Ordn m) (L : Lin values m p) : (values ++ pushes ps.flatten).Perm (valsOf (m.hands.flatMap (·.said)) ++ m.pileValues) := by
  have h1 := (List.Perm.refl values).append (pushes_perm (deeds_perm f hd O))
  have h2 := serial_perm values m.deeds
  have h3 := (valsOf_perm (answers_perm f hd O L)).append (show (serial values m.deeds).2.Perm m.pileValues by rw [L.values]; exact (List.reverse_perm _).symm)
  exact h1.symm.trans (h2.trans h3)
theorem none_count (f : Fine ps r m) (hd : m.isDone = true) (O : Ordn m) (L : Lin values m p) : (serial values m.deeds).1.count .non = (m.hands.flatMap (·.said)).count .non := (answers_perm f hd O L).count_eq _
theorem ans_said (f : Fine ps r m) (hd : m.isDone = true) (O : Ordn m) (L : Lin values m p) {i j k : Nat} (hi : m.ends[i]? = some (j, k)) : (serial values m.deeds).1[i]? = (m.hd j).said[k]? := by
  have hj : j < ps.length := by
    rw [← f.hn]
    exact O.fst _ (List.mem_of_getElem? hi)
  rw [ans_at (deeds_len m values) L.ord L.ans hi, done_full f hd hj]
theorem ends_in (f : Fine ps r m) (hd : m.isDone = true) (O : Ordn m) {e : Nat × Nat} (he : e ∈ m.ends) : e.1 < ps.length ∧ e.2 < (ps.getD e.1 []).length := by
  have hj : e.1 < ps.length := by
    rw [← f.hn]
    exact O.fst _ he
  refine ⟨hj, ?_⟩
  have h : e ∈ m.ends.filter fun x => x.1 == e.1 := List.mem_filter.mpr ⟨he, by simp⟩
  rw [O.full (done_rests hd (by rw [f.hn]; exact hj)), fine_prog f] at h
  obtain ⟨k, hk, e1⟩ := List.mem_map.mp h
  have e2 : k = e.2 := congrArg (·.2) e1
  exact e2 ▸ List.mem_range.mp hk
theorem word_push (f : Fine ps r m) (O : Ordn m) {j k : Nat} {pr : List Deed} {d : Deed} {a : Ans} (hp : ps[j]? = some pr) (hk : pr[k]? = some d) (ha : (m.hd j).said[k]? = some a) : (∃ v, d = Deed.push v) ↔ a = Ans.done := by
  obtain ⟨d', h1, h2⟩ := O.word j k a ha
  rw [fine_prog f, getD_get hp, hk] at h1
  cases h1
  exact h2
end SS

set_option linter.all false
/-! The same with some values more beneath: cells' numbers are greater by as many. -/
namespace SS
theorem Move.eq {m m1 : M} {h : Nat} {t : Tell} (v : Move m h t m1) : m.turn h = (t, m1) := by
  cases v with
  | rests hd =>
    unfold M.turn
    rw [hd]
  | takesF v c hd hc hp => rw [turn_takes hd hc, taken_some hp]
  | takesN v hd hc hp => rw [turn_takes hd hc, taken_none hp]
  | readsQ v hd hc hs => exact turn_reads_push hd hc hs
  | readsP hd hs ht => exact turn_reads_pop hd hs ht
  | empty hd hs ht => exact turn_empty hd hs ht
  | links v s hd hc hs hf => exact turn_links hd hc hs hf
  | pushed v f hd hc hs hf => exact turn_pushed hd hc hs hf
  | missQ v s f hd hc hs hf hn =>
    rw [turn_push hd hc hs]
    unfold M.push
    rw [hf, fits_of hs, decide_eq_false hn]
    rfl
  | popped s hd hs hc => exact turn_popped hd hs hc
  | marks s hd hs hc hn hl hm => exact turn_marks hd hs hc hn hl hm
  | looksF s hd hs hc hn hl hm ht =>
    rw [turn_pop hd hs]
    unfold M.pop M.guard
    rw [if_neg (fun z => z hc), if_pos ⟨hn, hl⟩, if_neg (fun z => z hm), if_pos ht]
  | looksT s hd hs hc hn hl hm ht => exact turn_looks hd hs hc hn hl hm ht
  | follows s hd hs hc hn hf => exact turn_follows hd hs hc hn hf
  | exchanges f hd hs hc hn hf => exact turn_exchanges hd hs hc hn hf
  | missP s f hd hs hc hn hf hx =>
    rw [turn_pop hd hs]
    unfold M.pop
    rw [if_neg (fun z => z hc), if_neg hn]
    have hft : m.fits h = false := by rw [fits_of hs, decide_eq_false hx]
    cases ef : (m.hd h).follow with
    | none =>
      rw [hf] at ef
      cases ef
    | some g => simp only [hft, Bool.false_eq_true, if_false]
def zsh (n c : Nat) : Nat := if c = 0 then 0 else c + n
def shH (n : Nat) (x : Hd) : Hd := { x with cell := zsh n x.cell, seen := x.seen.map fun s => (s.1 + n, s.2), follow := x.follow.map (· + n), mark := zsh n x.mark }
def Tell.lower (n : Nat) : Tell → Tell
  | .takes c => .takes (c + n)
  | .reads c => .reads (c + n)
  | .links c => .links (c + n)
  | .marks c => .marks (c + n)
  | .follows c => .follows (c + n)
  | .exchanges c => .exchanges (c + n)
  | t => t
structure Sh (more : List Int) (K : Nat → Prop) (m m' : M) : Prop where
  rule : m'.rule = m.rule
  progs : m'.progs = m.progs
  hands : m'.hands = m.hands.map (shH more.length)
  worths : m'.worths = more ++ m.worths
  freed : m'.freed = m.freed.map (· + more.length)
  ends : m'.ends = m.ends
  strayed : m'.strayed = m.strayed
  count : m'.count = m.count
  top : m'.top = m.top + more.length
  ll : m.links.length = m.worths.length
  ll' : m'.links.length = m'.worths.length
  lo : ∀ c, 1 ≤ c → c ≤ more.length → m'.links.getD (c - 1) 0 = c - 1
  lk : ∀ c, K c → m'.links.getD (c + more.length - 1) 0 = m.links.getD (c - 1) 0 + more.length
  kin : ∀ c, K c → 1 ≤ c ∧ c ≤ m.links.length
  kc : ∀ c, K c → m.links.getD (c - 1) 0 = 0 ∨ K (m.links.getD (c - 1) 0)
  kt : m.top = 0 ∨ K m.top
  ks : ∀ j s, (m.hd j).seen = some s → s.1 = 0 ∨ K s.1
  kf : ∀ j f, (m.hd j).follow = some f → f = 0 ∨ K f
  kp : ∀ j v f, (m.prog j)[(m.hd j).at_]? = some (.push v) → (m.hd j).follow = some f → (m.hd j).cell ≠ 0 ∧ K (m.hd j).cell
theorem shH_def (n : Nat) : shH n {} = {} := rfl
theorem zsh_pos {n c : Nat} (h : c ≠ 0) : zsh n c = c + n := if_neg h
theorem zsh_zero {n c : Nat} : zsh n c = 0 ↔ c = 0 := by
  unfold zsh
  split
  · next h => exact ⟨fun _ => h, fun _ => rfl⟩
  · next h => exact ⟨fun z => by omega, fun z => absurd z h⟩
theorem zsh_inj {n c d : Nat} (h : zsh n c = zsh n d) : c = d := by
  unfold zsh at h
  split at h <;> split at h <;> omega
section
variable {more : List Int} {K K' : Nat → Prop} {m m' : M} {h : Nat}
theorem Sh.hd (S : Sh more K m m') (j : Nat) : m'.hd j = shH more.length (m.hd j) := by
  unfold M.hd
  rw [S.hands, List.getD_eq_getElem?_getD, List.getD_eq_getElem?_getD, List.getElem?_map]
  cases m.hands[j]? <;> rfl
theorem Sh.prog (S : Sh more K m m') (j : Nat) : m'.prog j = m.prog j := by
  unfold M.prog
  rw [S.progs]
theorem Sh.pd (S : Sh more K m m') (j : Nat) : (m'.prog j)[(m'.hd j).at_]? = (m.prog j)[(m.hd j).at_]? := by
  rw [S.prog, S.hd]
  rfl
theorem map_setH {n : Nat} {l : List Hd} {h : Nat} {x : Hd} : (l.map (shH n)).set h (shH n x) = (l.set h x).map (shH n) := by
  rw [List.map_set]
/-- one hand is changed -/
theorem Sh.setH (S : Sh more K m m') (hl : h < m.hands.length) (x : Hd) (e1 : ∀ s, x.seen = some s → s.1 = 0 ∨ K s.1) (e2 : ∀ f, x.follow = some f → f = 0 ∨ K f) (e3 : ∀ v f, (m.prog h)[x.at_]? = some (.push v) → x.follow = some f → x.cell ≠ 0 ∧ K x.cell) :
    Sh more K (m.setH h x) (m'.setH h (shH more.length x)) where
  rule := S.rule
  progs := S.progs
  hands := by
    show m'.hands.set h _ = (m.hands.set h x).map _
    rw [S.hands, map_setH]
  worths := S.worths
  freed := S.freed
  ends := S.ends
  strayed := S.strayed
  count := S.count
  top := S.top
  ll := S.ll
  ll' := S.ll'
  lo := S.lo
  lk := S.lk
  kin := S.kin
  kc := S.kc
  kt := S.kt
  ks := fun j s e => by
    by_cases n : j = h
    · subst n
      rw [M.setH_hd hl] at e
      exact e1 s e
    · rw [M.setH_ne hl n] at e
      exact S.ks j s e
  kf := fun j f e => by
    by_cases n : j = h
    · subst n
      rw [M.setH_hd hl] at e
      exact e2 f e
    · rw [M.setH_ne hl n] at e
      exact S.kf j f e
  kp := fun j v f e e' => by
    by_cases n : j = h
    · subst n
      rw [M.setH_hd hl] at e e' ⊢
      exact e3 v f e e'
    · rw [M.setH_ne hl n] at e e' ⊢
      exact S.kp j v f e e'
theorem find_map (n : Nat) (mk : List Nat) : ∀ fr : List Nat, ((fr.map (· + n)).find? fun c => !(mk.map (· + n)).contains c) = (fr.find? fun c => !mk.contains c).map (· + n)
  | [] => rfl
  | c :: fr => by
    have e : (mk.map (· + n)).contains (c + n) = mk.contains c := by
      rw [Bool.eq_iff_iff, List.contains_iff_mem, List.contains_iff_mem, List.mem_map]
      exact ⟨fun ⟨d, h1, h2⟩ => by have : d = c := by omega
                                   rw [← this]; exact h1, fun h => ⟨c, h, rfl⟩⟩
    rw [List.map_cons, List.find?_cons, List.find?_cons, e]
    cases mk.contains c with
    | false => rfl
    | true => exact find_map n mk fr
theorem erase_map (n c : Nat) : ∀ fr : List Nat, (fr.map (· + n)).erase (c + n) = (fr.erase c).map (· + n)
  | [] => rfl
  | d :: fr => by
    rw [List.map_cons, List.erase_cons, List.erase_cons]
    by_cases e : d = c
    · subst e
      simp
    · have e1 : (d == c) = false := beq_eq_false_iff_ne.mpr e
      have e2 : (d + n == c + n) = false := beq_eq_false_iff_ne.mpr fun z => e (by omega)
      rw [e1, e2]
      simp only [Bool.false_eq_true, if_false]
      rw [List.map_cons, erase_map n c fr]
theorem Sh.marked (S : Sh more K m m') : m'.marked = m.marked.map (· + more.length) := by
  unfold M.marked
  rw [S.hands]
  generalize m.hands = l
  induction l with
  | nil => rfl
  | cons x l ih =>
    rw [List.map_cons, List.map_cons, List.map_cons, List.filter_cons, List.filter_cons, ih]
    by_cases e : x.mark = 0
    · have e1 : ((shH more.length x).mark != 0) = false := by
        show (zsh more.length x.mark != 0) = false
        rw [e]
        rfl
      have e2 : (x.mark != 0) = false := by rw [e]; rfl
      rw [e1, e2]
      rfl
    · have e1 : ((shH more.length x).mark != 0) = true := by
        show (zsh more.length x.mark != 0) = true
        rw [zsh_pos e, bne_iff_ne]
        omega
      have e2 : (x.mark != 0) = true := bne_iff_ne.mpr e
      rw [e1, e2, if_pos rfl, if_pos rfl, List.map_cons]
      show zsh more.length x.mark :: _ = _
      rw [zsh_pos e]
theorem Sh.picks (S : Sh more K m m') : pick m'.rule m'.marked m'.freed = (pick m.rule m.marked m.freed).map (· + more.length) := by
  unfold SS.pick
  rw [S.rule, S.marked, S.freed]
  split
  · rfl
  · exact find_map _ _ _
theorem Sh.of (S : Sh more K m m') {m1 m1' : M} (mono : ∀ c, K c → K' c) (hh : m1.hands = m.hands) (hh' : m1'.hands = m'.hands) (er : m1.rule = m.rule) (er' : m1'.rule = m'.rule) (ep : m1.progs = m.progs) (ep' : m1'.progs = m'.progs)
    (w : m1'.worths = more ++ m1.worths) (fr : m1'.freed = m1.freed.map (· + more.length)) (en : m1'.ends = m1.ends) (st : m1'.strayed = m1.strayed) (co : m1'.count = m1.count) (top : m1'.top = m1.top + more.length)
    (ll : m1.links.length = m1.worths.length) (ll' : m1'.links.length = m1'.worths.length) (lo : ∀ c, 1 ≤ c → c ≤ more.length → m1'.links.getD (c - 1) 0 = c - 1)
    (lk : ∀ c, K' c → m1'.links.getD (c + more.length - 1) 0 = m1.links.getD (c - 1) 0 + more.length) (kin : ∀ c, K' c → 1 ≤ c ∧ c ≤ m1.links.length) (kc : ∀ c, K' c → m1.links.getD (c - 1) 0 = 0 ∨ K' (m1.links.getD (c - 1) 0)) (kt : m1.top = 0 ∨ K' m1.top) : Sh more K' m1 m1' := by
  have hd : ∀ j, m1.hd j = m.hd j := fun j => by unfold M.hd; rw [hh]
  have pr : ∀ j, m1.prog j = m.prog j := fun j => by unfold M.prog; rw [ep]
  refine ⟨by rw [er', er, S.rule], by rw [ep', ep, S.progs], by rw [hh', hh, S.hands], w, fr, en, st, co, top, ll, ll', lo, lk, kin, kc, kt, fun j s e => ?_, fun j f e => ?_, fun j v f e e' => ?_⟩
  · rw [hd] at e
    exact (S.ks j s e).imp id (mono _)
  · rw [hd] at e
    exact (S.kf j f e).imp id (mono _)
  · rw [pr, hd] at e
    rw [hd] at e' ⊢
    exact ⟨(S.kp j v f e e').1, mono _ (S.kp j v f e e').2⟩
theorem Sh.turned (S : Sh more K m m') : m'.turned = m.turned := by
  unfold M.turned
  rw [S.rule, S.count]
theorem shH_ended (n : Nat) (x : Hd) (a : Ans) : (shH n x).ended a = shH n (x.ended a) := rfl
theorem shH_forgot (n : Nat) (x : Hd) : (shH n x).forgot = shH n x.forgot := rfl
theorem getD_more {more w : List Int} {c : Nat} (h1 : 1 ≤ c) : (more ++ w).getD (c + more.length - 1) 0 = w.getD (c - 1) 0 := by
  rw [List.getD_eq_getElem?_getD, List.getD_eq_getElem?_getD, List.getElem?_append_right (by omega)]
  have : c + more.length - 1 - more.length = c - 1 := by omega
  rw [this]
theorem set_more {more w : List Int} {c : Nat} {v : Int} (h1 : 1 ≤ c) : (more ++ w).set (c + more.length - 1) v = more ++ w.set (c - 1) v := by
  rw [List.set_append_right _ _ (by omega)]
  have : c + more.length - 1 - more.length = c - 1 := by omega
  rw [this]
theorem Sh.moves {ps : List (List Deed)} {r : Rule} {t : Tell} {m1 : M} (S : Sh more K m m') (f : Fine ps r m) (hl : h < m.hands.length) (mv : Move m h t m1) (ne : t ≠ .ends .non) : ∃ K' m1', Move m' h (t.lower more.length) m1' ∧ Sh more K' m1 m1' := by
  have P := S.pd h
  have H := S.hd h
  have KO := f.hand h
  have wl' : m'.worths.length = more.length + m.worths.length := by rw [S.worths, List.length_append]
  have quiet : ∀ (x : Hd), x.seen = (m.hd h).seen → (x.follow = (m.hd h).follow ∨ x.follow = none) → x.at_ = (m.hd h).at_ → x.cell = (m.hd h).cell → Sh more K (m.setH h x) (m'.setH h (shH more.length x)) := fun x e1 e2 e3 e4 =>
    S.setH hl x (fun s hs => S.ks h s (by rw [← e1]; exact hs)) (fun g hg => by
      rcases e2 with e2 | e2
      · exact S.kf h g (by rw [← e2]; exact hg)
      · rw [e2] at hg
        cases hg) (fun v g hp hg => by
      rcases e2 with e2 | e2
      · rw [e4]
        exact S.kp h v g (by rw [← e3]; exact hp) (by rw [← e2]; exact hg)
      · rw [e2] at hg
        cases hg)
  have gone : ∀ {m2 m2' : M} (x : Hd), Sh more K m2 m2' → m2.hands = m.hands → x.seen = none → x.follow = none → Sh more K (m2.setH h x) (m2'.setH h (shH more.length x)) := fun {m2 m2'} x S2 eh e1 e2 =>
    S2.setH (by rw [eh]; exact hl) x (fun s hs => by rw [e1] at hs; cases hs) (fun g hg => by rw [e2] at hg; cases hg) (fun v g _ hg => by rw [e2] at hg; cases hg)
  cases mv with
  | rests hd => exact ⟨K, m', .rests (by rw [P]; exact hd), S⟩
  | takesF v c hd hc hp =>
    have cf := f.good.fr c (pick_mem hp)
    have hp' : pick m'.rule m'.marked m'.freed = some (c + more.length) := by rw [S.picks, hp]; rfl
    refine ⟨K, _, .takesF v (c + more.length) (by rw [P]; exact hd) (by rw [H]; exact zsh_zero.mpr hc) hp', ?_⟩
    have ex : ({ m'.hd h with cell := c + more.length } : Hd) = shH more.length { m.hd h with cell := c } := by
      rw [H]
      show _ = ({ shH more.length (m.hd h) with cell := zsh more.length c } : Hd)
      rw [zsh_pos (by omega)]
    rw [ex]
    have S2 : Sh more K ({ m with freed := m.freed.erase c, worths := m.worths.set (c - 1) v } : M) ({ m' with freed := m'.freed.erase (c + more.length), worths := m'.worths.set (c + more.length - 1) v } : M) :=
      S.of (fun c h => h) rfl rfl rfl rfl rfl rfl (by show m'.worths.set _ v = _; rw [S.worths, set_more cf.1]) (by show m'.freed.erase _ = _; rw [S.freed, erase_map]) S.ends S.strayed S.count S.top (by show m.links.length = (m.worths.set _ _).length; rw [List.length_set]; exact S.ll) (by show m'.links.length = (m'.worths.set _ _).length; rw [List.length_set]; exact S.ll') S.lo S.lk S.kin S.kc S.kt
    refine S2.setH hl _ (fun s hs => S.ks h s hs) (fun g hg => S.kf h g hg) (fun v' g h1 h2 => absurd hc (S.kp h v' g h1 h2).1)
  | takesN v hd hc hp =>
    have hp' : pick m'.rule m'.marked m'.freed = none := by rw [S.picks, hp]; rfl
    have ec : m'.worths.length + 1 = m.worths.length + 1 + more.length := by rw [wl']; omega
    have MV := Move.takesN (m := m') (h := h) v (by rw [P]; exact hd) (by rw [H]; exact zsh_zero.mpr hc) hp'
    rw [ec] at MV
    refine ⟨K, _, MV, ?_⟩
    have ex : ({ m'.hd h with cell := m.worths.length + 1 + more.length } : Hd) = shH more.length { m.hd h with cell := m.worths.length + 1 } := by
      rw [H]
      show _ = ({ shH more.length (m.hd h) with cell := zsh more.length (m.worths.length + 1) } : Hd)
      rw [zsh_pos (by omega)]
    rw [ex]
    have S2 : Sh more K ({ m with worths := m.worths ++ [v], links := m.links ++ [0] } : M) ({ m' with worths := m'.worths ++ [v], links := m'.links ++ [0] } : M) :=
      S.of (fun c h => h) rfl rfl rfl rfl rfl rfl (by show m'.worths ++ [v] = _; rw [S.worths, List.append_assoc]) S.freed S.ends S.strayed S.count S.top (by show (m.links ++ [0]).length = (m.worths ++ [v]).length; rw [List.length_append, List.length_append, S.ll]; rfl) (by show (m'.links ++ [0]).length = (m'.worths ++ [v]).length; rw [List.length_append, List.length_append, S.ll']; rfl)
        (fun c h1 h2 => by show (m'.links ++ [0]).getD (c - 1) 0 = _; rw [getD_app (by rw [S.ll', wl']; omega)]; exact S.lo c h1 h2)
        (fun c h => by have := S.kin c h; have := S.ll; show (m'.links ++ [0]).getD _ 0 = (m.links ++ [0]).getD _ 0 + _; rw [getD_app (by rw [S.ll', wl']; omega), getD_app (by omega)]; exact S.lk c h)
        (fun c h => by have := S.kin c h; show _ ∧ c ≤ (m.links ++ [0]).length; rw [List.length_append]; exact ⟨this.1, by omega⟩)
        (fun c h => by have := S.kin c h; show (m.links ++ [0]).getD _ 0 = 0 ∨ K ((m.links ++ [0]).getD _ 0); rw [getD_app (by omega)]; exact S.kc c h) S.kt
    refine S2.setH hl _ (fun s hs => S.ks h s hs) (fun g hg => S.kf h g hg) (fun v' g h1 h2 => absurd hc (S.kp h v' g h1 h2).1)
  | readsQ v hd hc hs =>
    have MV := Move.readsQ (m := m') (h := h) v (by rw [P]; exact hd) (by rw [H]; exact fun z => hc (zsh_zero.mp z)) (by rw [H]; show (m.hd h).seen.map _ = none; rw [hs]; rfl)
    rw [S.top] at MV
    refine ⟨K, _, MV, ?_⟩
    have ex : ({ m'.hd h with seen := some (m.top + more.length, m'.count) } : Hd) = shH more.length { m.hd h with seen := some (m.top, m.count) } := by
      rw [H, S.count]
      rfl
    rw [ex]
    exact S.setH hl _ (fun s e => by cases e; exact S.kt) (fun g hg => S.kf h g hg) (fun v' g h1 h2 => S.kp h v' g h1 h2)
  | readsP hd hs ht =>
    have MV := Move.readsP (m := m') (h := h) (by rw [P]; exact hd) (by rw [H]; show (m.hd h).seen.map _ = none; rw [hs]; rfl) (by rw [S.top]; omega)
    rw [S.top] at MV
    refine ⟨K, _, MV, ?_⟩
    have ex : ({ m'.hd h with seen := some (m.top + more.length, m'.count) } : Hd) = shH more.length { m.hd h with seen := some (m.top, m.count) } := by
      rw [H, S.count]
      rfl
    rw [ex]
    exact S.setH hl _ (fun s e => by cases e; exact S.kt) (fun g hg => S.kf h g hg) (fun v' g h1 h2 => S.kp h v' g h1 h2)
  | empty hd hs ht => exact absurd rfl ne
  | links v s hd hc hs hf =>
    have hs' : (m'.hd h).seen = some (s.1 + more.length, s.2) := by rw [H]; show (m.hd h).seen.map _ = _; rw [hs]; rfl
    have MV := Move.links (m := m') (h := h) v (s.1 + more.length, s.2) (by rw [P]; exact hd) (by rw [H]; exact fun z => hc (zsh_zero.mp z)) hs' (by rw [H]; show (m.hd h).follow.map _ = none; rw [hf]; rfl)
    have ec : (m'.hd h).cell = (m.hd h).cell + more.length := by rw [H]; exact zsh_pos hc
    have cb := KO.cell
    have hll := S.ll
    refine ⟨fun c => K c ∨ c = (m.hd h).cell, _, MV, ?_⟩
    have ex : ({ m'.hd h with follow := some (s.1 + more.length) } : Hd) = shH more.length { m.hd h with follow := some s.1 } := by
      rw [H]
      rfl
    show Sh more _ _ (({ m' with links := m'.links.set ((m'.hd h).cell - 1) (s.1 + more.length) } : M).setH h { m'.hd h with follow := some (s.1 + more.length) })
    rw [ex, ec]
    have gl : ∀ c, 1 ≤ c → c ≠ (m.hd h).cell → (m.links.set ((m.hd h).cell - 1) s.1).getD (c - 1) 0 = m.links.getD (c - 1) 0 := fun c h1 h2 => getD_set_ne (by omega)
    have gs : (m.links.set ((m.hd h).cell - 1) s.1).getD ((m.hd h).cell - 1) 0 = s.1 := getD_set_self (by omega)
    have S2 : Sh more (fun c => K c ∨ c = (m.hd h).cell) ({ m with links := m.links.set ((m.hd h).cell - 1) s.1 } : M) ({ m' with links := m'.links.set ((m.hd h).cell + more.length - 1) (s.1 + more.length) } : M) :=
      S.of (fun c h => .inl h) rfl rfl rfl rfl rfl rfl S.worths S.freed S.ends S.strayed S.count S.top (by show (m.links.set _ _).length = _; rw [List.length_set]; exact S.ll) (by show (m'.links.set _ _).length = _; rw [List.length_set]; exact S.ll')
        (fun c h1 h2 => by show (m'.links.set _ _).getD (c - 1) 0 = _; rw [getD_set_ne (by omega)]; exact S.lo c h1 h2)
        (fun c hk => by
          show (m'.links.set _ _).getD _ 0 = (m.links.set _ _).getD _ 0 + _
          by_cases e : c = (m.hd h).cell
          · rw [e, gs, getD_set_self (by rw [S.ll', wl']; omega)]
          · have hk' : K c := hk.resolve_right e
            have := S.kin c hk'
            rw [gl c this.1 e, getD_set_ne (by omega)]
            exact S.lk c hk')
        (fun c hk => by
          show _ ∧ c ≤ (m.links.set _ _).length
          rw [List.length_set]
          rcases hk with hk | hk
          · exact S.kin c hk
          · rw [hk]
            exact ⟨by omega, by omega⟩)
        (fun c hk => by
          show (m.links.set _ _).getD _ 0 = 0 ∨ _
          by_cases e : c = (m.hd h).cell
          · rw [e]
            show (m.links.set ((m.hd h).cell - 1) s.1).getD ((m.hd h).cell - 1) 0 = 0 ∨ (K ((m.links.set ((m.hd h).cell - 1) s.1).getD ((m.hd h).cell - 1) 0) ∨ _)
            rw [gs]
            exact (S.ks h s hs).imp id .inl
          · have hk' : K c := hk.resolve_right e
            have := S.kin c hk'
            show (m.links.set ((m.hd h).cell - 1) s.1).getD (c - 1) 0 = 0 ∨ (K ((m.links.set ((m.hd h).cell - 1) s.1).getD (c - 1) 0) ∨ _)
            rw [gl c this.1 e]
            exact (S.kc c hk').imp id .inl) (S.kt.imp id .inl)
    exact S2.setH hl _ (fun s' e => (S.ks h s' e).imp id .inl) (fun g e => by cases e; exact (S.ks h s hs).imp id .inl) (fun v' g h1 h2 => ⟨hc, .inr rfl⟩)
  | pushed v g hd hc hs hf =>
    have ec : (m'.hd h).cell = (m.hd h).cell + more.length := by rw [H]; exact zsh_pos hc
    have MV := Move.pushed (m := m') (h := h) v (g + more.length) (by rw [P]; exact hd) (by rw [H]; exact fun z => hc (zsh_zero.mp z)) (by rw [H, S.top, S.count]; show (m.hd h).seen.map _ = _; rw [hs]; rfl) (by rw [H]; show (m.hd h).follow.map _ = _; rw [hf]; rfl)
    refine ⟨K, _, MV, ?_⟩
    rw [H, shH_ended, ← H, ec]
    exact gone _ (S.of (fun c h => h) rfl rfl rfl rfl rfl rfl S.worths S.freed (by show m'.ends ++ [(h, (m'.hd h).at_)] = m.ends ++ _; rw [S.ends, H]; rfl) S.strayed S.turned rfl S.ll S.ll' S.lo S.lk S.kin S.kc (.inr (S.kp h v g hd hf).2)) rfl rfl rfl
  | missQ v s g hd hc hs hf hn =>
    have MV := Move.missQ (m := m') (h := h) v (s.1 + more.length, s.2) (g + more.length) (by rw [P]; exact hd) (by rw [H]; exact fun z => hc (zsh_zero.mp z)) (by rw [H]; show (m.hd h).seen.map _ = _; rw [hs]; rfl) (by rw [H]; show (m.hd h).follow.map _ = _; rw [hf]; rfl) (fun z => hn (by
      rw [S.top, S.count] at z
      have z1 := congrArg (·.1) z
      have z2 := congrArg (·.2) z
      simp only at z1 z2
      exact Prod.ext (by omega) z2))
    refine ⟨K, _, MV, ?_⟩
    rw [H, shH_forgot]
    exact gone _ S rfl rfl rfl
  | popped s hd hs hc =>
    have ec : (m'.hd h).cell = (m.hd h).cell + more.length := by rw [H]; exact zsh_pos hc
    have MV := Move.popped (m := m') (h := h) (s.1 + more.length, s.2) (by rw [P]; exact hd) (by rw [H]; show (m.hd h).seen.map _ = _; rw [hs]; rfl) (by rw [H]; exact fun z => hc (zsh_zero.mp z))
    have ew : m'.worths.getD ((m'.hd h).cell - 1) 0 = m.worths.getD ((m.hd h).cell - 1) 0 := by rw [ec, S.worths, getD_more (by omega)]
    rw [ew, ec] at MV
    refine ⟨K, _, MV, ?_⟩
    rw [H, shH_ended]
    exact gone _ (S.of (fun c h => h) rfl rfl rfl rfl rfl rfl S.worths (by show m'.freed ++ _ = (m.freed ++ _).map _; rw [S.freed, List.map_append]; rfl) S.ends S.strayed S.count S.top S.ll S.ll' S.lo S.lk S.kin S.kc S.kt) rfl rfl rfl
  | marks s hd hs hc hn hk hm =>
    have s1 := KO.popC s hd hs
    have MV := Move.marks (m := m') (h := h) (s.1 + more.length, s.2) (by rw [P]; exact hd) (by rw [H]; show (m.hd h).seen.map _ = _; rw [hs]; rfl) (by rw [H]; exact zsh_zero.mpr hc) (by rw [S.rule]; exact hn) (by rw [H]; exact hk) (by
      rw [H]
      show zsh more.length (m.hd h).mark ≠ s.1 + more.length
      rw [← zsh_pos (n := more.length) (c := s.1) (by omega)]
      exact fun z => hm (zsh_inj z))
    refine ⟨K, _, MV, ?_⟩
    have ex : ({ m'.hd h with mark := s.1 + more.length } : Hd) = shH more.length { m.hd h with mark := s.1 } := by
      rw [H]
      show _ = ({ shH more.length (m.hd h) with mark := zsh more.length s.1 } : Hd)
      rw [zsh_pos (by omega)]
    show Sh more K _ (m'.setH h { m'.hd h with mark := s.1 + more.length })
    rw [ex]
    exact quiet _ rfl (.inl rfl) rfl rfl
  | looksF s hd hs hc hn hk hm ht =>
    have s1 := KO.popC s hd hs
    have MV := Move.looksF (m := m') (h := h) (s.1 + more.length, s.2) (by rw [P]; exact hd) (by rw [H]; show (m.hd h).seen.map _ = _; rw [hs]; rfl) (by rw [H]; exact zsh_zero.mpr hc) (by rw [S.rule]; exact hn) (by rw [H]; exact hk) (by
      rw [H]
      show zsh more.length (m.hd h).mark = s.1 + more.length
      rw [hm, zsh_pos (by omega)]) (by rw [S.top]; show m.top + _ ≠ s.1 + _; omega)
    refine ⟨K, _, MV, ?_⟩
    rw [H, shH_forgot]
    exact gone _ S rfl rfl rfl
  | looksT s hd hs hc hn hk hm ht =>
    have s1 := KO.popC s hd hs
    have MV := Move.looksT (m := m') (h := h) (s.1 + more.length, s.2) (by rw [P]; exact hd) (by rw [H]; show (m.hd h).seen.map _ = _; rw [hs]; rfl) (by rw [H]; exact zsh_zero.mpr hc) (by rw [S.rule]; exact hn) (by rw [H]; exact hk) (by
      rw [H]
      show zsh more.length (m.hd h).mark = s.1 + more.length
      rw [hm, zsh_pos (by omega)]) (by rw [S.top, ht])
    refine ⟨K, _, MV, ?_⟩
    have ex : ({ m'.hd h with looked := true } : Hd) = shH more.length { m.hd h with looked := true } := by
      rw [H]
      rfl
    rw [ex]
    exact quiet _ rfl (.inl rfl) rfl rfl
  | follows s hd hs hc hn hf =>
    have s1 := KO.popC s hd hs
    have Ks : K s.1 := (S.ks h s hs).resolve_left (by omega)
    have MV := Move.follows (m := m') (h := h) (s.1 + more.length, s.2) (by rw [P]; exact hd) (by rw [H]; show (m.hd h).seen.map _ = _; rw [hs]; rfl) (by rw [H]; exact zsh_zero.mpr hc) (by rw [S.rule, H]; exact hn) (by rw [H]; show (m.hd h).follow.map _ = none; rw [hf]; rfl)
    have el : m'.links.getD ((s.1 + more.length, s.2).1 - 1) 0 = m.links.getD (s.1 - 1) 0 + more.length := S.lk s.1 Ks
    rw [el] at MV
    refine ⟨K, _, MV, ?_⟩
    have ex : ({ m'.hd h with follow := some (m.links.getD (s.1 - 1) 0 + more.length) } : Hd) = shH more.length { m.hd h with follow := some (m.links.getD (s.1 - 1) 0) } := by
      rw [H]
      rfl
    rw [ex]
    exact S.setH hl _ (fun s' e => S.ks h s' e) (fun g e => by cases e; exact S.kc s.1 Ks) (fun v' g h1 h2 => by
      have h1' : (m.prog h)[(m.hd h).at_]? = some (.push v') := h1
      rw [hd] at h1'
      cases h1')
  | exchanges g hd hs hc hn hf =>
    have s1 := KO.popC _ hd hs
    have Kt : K m.top := S.kt.resolve_left (by show m.top ≠ 0; have : 1 ≤ m.top := s1; omega)
    have MV := Move.exchanges (m := m') (h := h) (g + more.length) (by rw [P]; exact hd) (by rw [H, S.top, S.count]; show (m.hd h).seen.map _ = _; rw [hs]; rfl) (by rw [H]; exact zsh_zero.mpr hc) (by rw [S.rule, H]; exact hn) (by rw [H]; show (m.hd h).follow.map _ = _; rw [hf]; rfl)
    have el : m'.links.getD (m'.top - 1) 0 = m.links.getD (m.top - 1) 0 + more.length := by rw [S.top]; exact S.lk _ Kt
    have es : (m'.strayed || m'.links.getD (m'.top - 1) 0 != g + more.length) = (m.strayed || m.links.getD (m.top - 1) 0 != g) := by
      rw [el, S.strayed]
      congr 1
      rw [Bool.eq_iff_iff, bne_iff_ne, bne_iff_ne]
      omega
    rw [es] at MV
    refine ⟨K, _, MV, ?_⟩
    have ex : ({ m'.hd h with cell := m'.top } : Hd) = shH more.length { m.hd h with cell := m.top } := by
      rw [H, S.top]
      show _ = ({ shH more.length (m.hd h) with cell := zsh more.length m.top } : Hd)
      rw [zsh_pos (by have : 1 ≤ m.top := s1; omega)]
    rw [ex]
    have S2 : Sh more K ({ m.exchd h g with strayed := m.strayed || m.links.getD (m.top - 1) 0 != g } : M) ({ m'.exchd h (g + more.length) with strayed := m.strayed || m.links.getD (m.top - 1) 0 != g } : M) :=
      S.of (fun c h => h) rfl rfl rfl rfl rfl rfl S.worths S.freed (by show m'.ends ++ [(h, (m'.hd h).at_)] = m.ends ++ _; rw [S.ends, H]; rfl) rfl S.turned rfl S.ll S.ll' S.lo S.lk S.kin S.kc (S.kf h g hf)
    exact S2.setH hl _ (fun s' e => S.ks h s' e) (fun g' e => S.kf h g' e) (fun v' g' h1 h2 => by
      have h1' : (m.prog h)[(m.hd h).at_]? = some (.push v') := h1
      rw [hd] at h1'
      cases h1')
  | missP s g hd hs hc hn hf hx =>
    have MV := Move.missP (m := m') (h := h) (s.1 + more.length, s.2) (g + more.length) (by rw [P]; exact hd) (by rw [H]; show (m.hd h).seen.map _ = _; rw [hs]; rfl) (by rw [H]; exact zsh_zero.mpr hc) (by rw [S.rule, H]; exact hn) (by rw [H]; show (m.hd h).follow.map _ = _; rw [hf]; rfl) (fun z => hx (by
      rw [S.top, S.count] at z
      have z1 := congrArg (·.1) z
      have z2 := congrArg (·.2) z
      simp only at z1 z2
      exact Prod.ext (by omega) z2))
    refine ⟨K, _, MV, ?_⟩
    rw [H, shH_forgot]
    exact gone _ S rfl rfl rfl
end
end SS

set_option linter.all false
/-! Whole weavings with values beneath. -/
namespace SS
section
variable {more : List Int} {K : Nat → Prop} {m m' : M} {values : List Int} {ps : List (List Deed)} {r : Rule}
theorem range_getD_lt {n i : Nat} (h : i < n) : (List.range n).getD i 0 = i := getD_get (List.getElem?_range h)
theorem Sh.begin_ : Sh more (fun c => 1 ≤ c ∧ c ≤ values.length) (M.begin_ values ps r) (M.begin_ (more ++ values) ps r) := by
  refine ⟨rfl, rfl, ?_, rfl, rfl, rfl, rfl, rfl, ?_, ?_, ?_, fun c h1 h2 => ?_, fun c h => ?_, fun c h => ?_, fun c h => ?_, ?_, fun j s e => ?_, fun j f e => ?_, fun j v f e e' => ?_⟩
  · show (ps.map fun _ => ({} : Hd)) = (ps.map fun _ => ({} : Hd)).map _
    rw [List.map_map]
    rfl
  · show (more ++ values).length = values.length + more.length
    rw [List.length_append]
    omega
  · show (List.range values.length).length = values.length
    exact List.length_range
  · show (List.range (more ++ values).length).length = (more ++ values).length
    exact List.length_range
  · show (List.range (more ++ values).length).getD (c - 1) 0 = _
    exact range_getD_lt (by rw [List.length_append]; omega)
  · show (List.range (more ++ values).length).getD _ 0 = (List.range values.length).getD _ 0 + _
    rw [range_getD_lt (by rw [List.length_append]; omega), range_getD_lt (by omega)]
    omega
  · show _ ∧ c ≤ (List.range values.length).length
    rw [List.length_range]
    exact h
  · show (List.range values.length).getD (c - 1) 0 = 0 ∨ (1 ≤ (List.range values.length).getD (c - 1) 0 ∧ (List.range values.length).getD (c - 1) 0 ≤ values.length)
    rw [range_getD_lt (by omega)]
    omega
  · show values.length = 0 ∨ (1 ≤ values.length ∧ values.length ≤ values.length)
    omega
  · rw [begin_hd] at e
    cases e
  · rw [begin_hd] at e
    cases e
  · rw [begin_hd] at e'
    cases e'
theorem Sh.step (S : Sh more K m m') (f : Fine ps r m) {h : Nat} (hl : h < ps.length) (ne : (m.turn h).1 ≠ .ends .non) : (m'.turn h).1 = (m.turn h).1.lower more.length ∧ ∃ K', Sh more K' (m.step h) (m'.step h) := by
  obtain ⟨K', m1', mv, S'⟩ := S.moves f (h := h) (by rw [f.hn]; exact hl) (move m h) ne
  have e := mv.eq
  refine ⟨by rw [e], K', ?_⟩
  have e2 : m'.step h = m1' := by unfold M.step; rw [e]
  rw [e2]
  exact S'
theorem Sh.run : ∀ {w : List Nat} {m m' : M} {K : Nat → Prop}, Sh more K m m' → Fine ps r m → (∀ h ∈ w, h < ps.length) → (∀ t ∈ m.tells w, t ≠ .ends .non) → m'.tells w = (m.tells w).map (Tell.lower more.length) ∧ ∃ K', Sh more K' (m.run w) (m'.run w)
  | [], m, m', K, S, _, _, _ => ⟨rfl, K, S⟩
  | h :: w, m, m', K, S, f, hw, ht => by
    have h1 := hw h List.mem_cons_self
    obtain ⟨e, K1, S1⟩ := S.step f h1 (ht _ List.mem_cons_self)
    obtain ⟨e2, K2, S2⟩ := Sh.run (w := w) S1 (f.step h1) (fun x hx => hw x (List.mem_cons_of_mem _ hx)) (fun t h => ht t (List.mem_cons_of_mem _ h))
    refine ⟨?_, K2, S2⟩
    show (m'.turn h).1 :: (m'.step h).tells w = (m.turn h).1.lower more.length :: ((m.step h).tells w).map _
    rw [e, e2]
theorem Sh.low (S : Sh more K m m') : ∀ k, k ≤ more.length → chain m'.links k (pile0 k)
  | 0, _ => rfl
  | k + 1, hk => by
    refine ⟨rfl, by omega, ?_⟩
    rw [S.lo (k + 1) (by omega) hk]
    exact S.low k (by omega)
theorem Sh.chained (S : Sh more K m m') : ∀ {p : List Nat} {t : Nat}, chain m.links t p → (t = 0 ∨ K t) → chain m'.links (t + more.length) (p.map (· + more.length) ++ pile0 more.length)
  | [], t, h, _ => by
    have e : t = 0 := h
    rw [e, Nat.zero_add]
    exact S.low _ (Nat.le_refl _)
  | c :: p, t, h, hk => by
    obtain ⟨rfl, h0, h1⟩ := h
    have k := hk.resolve_left h0
    refine ⟨rfl, (show t + more.length ≠ 0 by omega), ?_⟩
    rw [S.lk t k]
    exact S.chained h1 (S.kc t k)
theorem Sh.pile (S : Sh more K m m') {p : List Nat} (L : Lin values m p) : m'.pile = p.map (· + more.length) ++ pile0 more.length := by
  have ch := S.chained L.ch S.kt
  have nd : (p.map (· + more.length) ++ pile0 more.length).Nodup := by
    rw [List.nodup_append]
    refine ⟨?_, pile0_nodup _, fun a ha b hb => ?_⟩
    · rw [List.nodup_iff_pairwise_ne, List.pairwise_map]
      exact (List.nodup_iff_pairwise_ne.mp L.nd).imp fun h z => h (by omega)
    · obtain ⟨c, hc, rfl⟩ := List.mem_map.mp ha
      have h1 := L.pin c hc
      have h2 := pile0_in _ hb
      omega
  have hp := nodup_len m.worths.length L.nd L.pin
  have pl : (pile0 more.length).length = more.length := by
    have : ∀ n, (pile0 n).length = n := fun n => by
      induction n with
      | zero => rfl
      | succ n ih => show (pile0 n).length + 1 = _; rw [ih]
    exact this _
  have ll := S.ll'
  have wl : m'.worths.length = more.length + m.worths.length := by rw [S.worths, List.length_append]
  rw [← S.top] at ch
  unfold M.pile
  rw [pileFrom_chain _ ch (by rw [List.nil_append]; exact nd) (by rw [List.length_append, List.length_map, pl]; omega)]
  rfl
theorem Sh.pileVals (S : Sh more K m m') {p : List Nat} (L : Lin values m p) : m'.pileValues = m.pileValues ++ more.reverse := by
  unfold M.pileValues
  rw [S.pile L, L.pile, List.map_append, List.map_map, S.worths]
  congr 1
  · refine List.map_congr_left fun c hc => ?_
    exact getD_more (L.pin c hc).1
  · have h := pile0_values more more.length (Nat.le_refl _)
    rw [List.take_length] at h
    rw [← h]
    refine List.map_congr_left fun c hc => ?_
    have := pile0_in _ hc
    exact getD_app (by omega)
end
end SS

set_option linter.all false
/-! What the tells alone say of the pile: its cells from the lowest on, free ones, those that hands have, those read. -/
namespace SS
structure Four where
  pile : List Nat
  free : List Nat
  have_ : List Nat
  seen : List Nat
def cellsOf (m : M) : List Nat := m.hands.map (·.cell)
structure Four.at (z : Four) (m : M) (p : List Nat) : Prop where
  pile : z.pile = p.reverse
  free : z.free = m.freed
  have_ : z.have_ = cellsOf m
  sl : z.seen.length = m.hands.length
  seen : ∀ j s, (m.hd j).seen = some s → z.seen[j]? = some s.1
def Four.step (z : Four) (h : Nat) : Tell → Four
  | .takes c => { z with have_ := z.have_.set h c, free := z.free.filter fun x => x != c }
  | .reads c => { z with seen := z.seen.set h c }
  | .exchanges c => { z with have_ := z.have_.set h (z.pile.getLastD 0), pile := z.pile.dropLast }
  | .ends .done => { z with pile := z.pile ++ [z.have_.getD h 0], have_ := z.have_.set h 0 }
  | .ends a => if 0 < z.have_.getD h 0 then { z with free := z.free ++ [z.have_.getD h 0], have_ := z.have_.set h 0 } else z
  | _ => z
def Four.fine (z : Four) (h : Nat) : Tell → Prop
  | .exchanges c => z.pile ≠ [] ∧ z.seen[h]? = some (z.pile.getLastD 0) ∧ c = z.pile.dropLast.getLastD 0
  | _ => True
theorem cells_get {m : M} {h : Nat} (hl : h < m.hands.length) : (cellsOf m)[h]? = some (m.hd h).cell := by
  unfold cellsOf M.hd
  rw [List.getElem?_map, List.getElem?_eq_getElem hl, getD_get (List.getElem?_eq_getElem hl)]
  rfl
theorem cells_len (m : M) : (cellsOf m).length = m.hands.length := List.length_map _
theorem cells_set {m m1 : M} {h : Nat} {x : Hd} (e : m1.hands = m.hands) : cellsOf (m1.setH h x) = (cellsOf m).set h x.cell := by
  unfold cellsOf M.setH
  rw [e]
  exact List.map_set
theorem map_cell (l : List Hd) (h : Nat) (x : Hd) : (l.set h x).map (fun y => y.cell) = (l.map fun y => y.cell).set h x.cell := List.map_set
theorem set_self {α : Type} {l : List α} {h : Nat} {a : α} (e : l[h]? = some a) : l.set h a = l := by
  refine List.ext_getElem? fun i => ?_
  rw [List.getElem?_set]
  split
  · next z =>
    subst z
    rw [if_pos (List.getElem?_eq_some_iff.mp e).1, e]
  · rfl
section
variable {values : List Int} {ps : List (List Deed)} {r : Rule} {m m1 : M} {p : List Nat} {h : Nat} {z : Four} {x : Hd}
theorem seen_set (A : z.at m p) (hl : h < m.hands.length) (eh : m1.hands = m.hands) (hx : ∀ s, x.seen = some s → z.seen[h]? = some s.1) : ∀ j s, ((m1.setH h x).hd j).seen = some s → z.seen[j]? = some s.1 := by
  intro j s e
  by_cases n : j = h
  · subst n
    rw [set_hh eh hl] at e
    exact hx s e
  · rw [set_hn eh hl n] at e
    exact A.seen j s e
theorem Four.quiet (A : z.at m p) (hl : h < m.hands.length) (eh : m1.hands = m.hands) (ef : m1.freed = m.freed) (hc : x.cell = (m.hd h).cell) (hx : ∀ s, x.seen = some s → z.seen[h]? = some s.1) : z.at (m1.setH h x) p where
  pile := A.pile
  free := by rw [A.free, ← ef]; rfl
  have_ := by rw [cells_set eh, hc, set_self (cells_get hl)]; exact A.have_
  sl := by rw [M.setH_len, eh]; exact A.sl
  seen := seen_set A hl eh hx
theorem four_step (L : Lin values m p) (f : Fine ps r m) (hl : h < ps.length) (e : (m.step h).strayed = false) (A : z.at m p) :
    ∃ p', Lin values (m.step h) p' ∧ (z.step h (m.turn h).1).at (m.step h) p' ∧ z.fine h (m.turn h).1 := by
  have hl' : h < m.hands.length := by rw [f.hn]; exact hl
  have K := f.hand h
  have mv := move m h
  have hh : z.have_[h]? = some (m.hd h).cell := by rw [A.have_]; exact cells_get hl'
  have hg : z.have_.getD h 0 = (m.hd h).cell := getD_get hh
  generalize (m.turn h).1 = t at mv
  generalize hm' : m.step h = m' at mv e
  cases mv with
  | rests hd => exact ⟨p, L, A, trivial⟩
  | takesF v c hd hc hp =>
    refine ⟨p, L.tookF hl' hd hc (pick_mem hp), ⟨A.pile, ?_, ?_, ?_, seen_set (z := z) A hl' rfl fun s hs => A.seen h s hs⟩, trivial⟩
    · show z.free.filter _ = m.freed.erase c
      rw [A.free, L.fd.erase_eq_filter]
    · show _ = (m.hands.set h _).map (fun y : Hd => y.cell)
      rw [map_cell]
      exact congrArg (fun l : List Nat => l.set h c) A.have_
    · show z.seen.length = _
      rw [M.setH_len]
      exact A.sl
  | takesN v hd hc hp =>
    refine ⟨p, L.tookN hl' hd hc, ⟨A.pile, ?_, ?_, ?_, seen_set (z := z) A hl' rfl fun s hs => A.seen h s hs⟩, trivial⟩
    · show z.free.filter _ = m.freed
      rw [A.free]
      refine List.filter_eq_self.mpr fun c hm => ?_
      have := (L.fin c hm).2.1
      have n : c ≠ m.worths.length + 1 := by omega
      simpa using n
    · show _ = (m.hands.set h _).map (fun y : Hd => y.cell)
      rw [map_cell]
      exact congrArg (fun l : List Nat => l.set h (m.worths.length + 1)) A.have_
    · show z.seen.length = _
      rw [M.setH_len]
      exact A.sl
  | readsQ v hd hc hs =>
    refine ⟨p, L.quiet hl' _ rfl rfl rfl (fun v' g h1 h2 => by
      obtain ⟨_, _, c, z⟩ := L.lnk h v' g h1 h2
      rw [hs] at z
      cases z), ⟨A.pile, A.free, ?_, ?_, fun j s hj => ?_⟩, trivial⟩
    · show _ = (m.hands.set h _).map (fun y : Hd => y.cell)
      rw [map_cell]
      exact A.have_.trans (set_self (cells_get hl')).symm
    · show (z.seen.set h _).length = _
      rw [List.length_set, M.setH_len]
      exact A.sl
    · show (z.seen.set h m.top)[j]? = _
      by_cases n : j = h
      · subst n
        rw [set_hh rfl hl'] at hj
        have := Option.some.inj hj
        rw [List.getElem?_set_self (by rw [A.sl]; exact hl'), ← this]
      · rw [set_hn rfl hl' n] at hj
        rw [List.getElem?_set_ne (fun z => n z.symm)]
        exact A.seen j s hj
  | readsP hd hs ht =>
    refine ⟨p, L.quiet hl' _ rfl rfl rfl (fun v' g h1 h2 => by
      rw [hd] at h1
      cases h1), ⟨A.pile, A.free, ?_, ?_, fun j s hj => ?_⟩, trivial⟩
    · show _ = (m.hands.set h _).map (fun y : Hd => y.cell)
      rw [map_cell]
      exact A.have_.trans (set_self (cells_get hl')).symm
    · show (z.seen.set h _).length = _
      rw [List.length_set, M.setH_len]
      exact A.sl
    · show (z.seen.set h m.top)[j]? = _
      by_cases n : j = h
      · subst n
        rw [set_hh rfl hl'] at hj
        have := Option.some.inj hj
        rw [List.getElem?_set_self (by rw [A.sl]; exact hl'), ← this]
      · rw [set_hn rfl hl' n] at hj
        rw [List.getElem?_set_ne (fun z => n z.symm)]
        exact A.seen j s hj
  | empty hd hs ht =>
    have c0 : (m.hd h).cell = 0 := by
      apply Classical.byContradiction
      exact fun z => K.popS hd z hs
    refine ⟨p, L.none hl' hd c0 ht, ?_, trivial⟩
    have : z.step h (.ends .non) = z := by
      show (if 0 < z.have_.getD h 0 then _ else z) = z
      rw [hg, c0, if_neg (Nat.lt_irrefl 0)]
    rw [this]
    exact Four.quiet (m1 := { m with ends := m.ends ++ [(h, (m.hd h).at_)] }) A hl' rfl rfl (by show 0 = _; rw [c0]) fun s z => by cases z
  | links v s hd hc hs hf => exact ⟨p, L.linked hl' hd hc hs, Four.quiet (m1 := { m with links := m.links.set ((m.hd h).cell - 1) s.1 }) A hl' rfl rfl rfl (fun s hs => A.seen h s hs), trivial⟩
  | pushed v g hd hc hs hf =>
    refine ⟨_, L.didPush hl' hd hc hs hf, ⟨?_, A.free, ?_, ?_, seen_set (z := z) A hl' rfl fun s z => by cases z⟩, trivial⟩
    · show z.pile ++ [z.have_.getD h 0] = _
      rw [hg, A.pile, List.reverse_cons]
    · show z.have_.set h 0 = _
      show _ = (m.hands.set h _).map (fun y : Hd => y.cell)
      rw [map_cell]
      exact congrArg (fun l : List Nat => l.set h 0) A.have_
    · show z.seen.length = _
      rw [M.setH_len]
      exact A.sl
  | missQ v s g hd hc hs hf hn => exact ⟨p, L.quiet hl' _ rfl rfl rfl (fun v' g h1 h2 => by cases h2), Four.quiet (m1 := m) A hl' rfl rfl rfl (fun s z => by cases z), trivial⟩
  | popped s hd hs hc =>
    refine ⟨p, L.letGo hl' hd hc, ?_, trivial⟩
    have : z.step h (.ends (.val (m.worths.getD ((m.hd h).cell - 1) 0))) = { z with free := z.free ++ [z.have_.getD h 0], have_ := z.have_.set h 0 } := by
      show (if 0 < z.have_.getD h 0 then _ else z) = _
      rw [hg, if_pos (Nat.pos_of_ne_zero hc)]
    rw [this]
    refine ⟨A.pile, ?_, ?_, ?_, seen_set (z := z) A hl' rfl fun s z => by cases z⟩
    · show z.free ++ [z.have_.getD h 0] = _
      rw [hg, A.free]
      rfl
    · show z.have_.set h 0 = _
      show _ = (m.hands.set h _).map (fun y : Hd => y.cell)
      rw [map_cell]
      exact congrArg (fun l : List Nat => l.set h 0) A.have_
    · show z.seen.length = _
      rw [M.setH_len]
      exact A.sl
  | marks s hd hs hc hn hk hm => exact ⟨p, L.quiet hl' _ rfl rfl rfl (fun v' g h1 h2 => by
      rw [hd] at h1
      cases h1), Four.quiet (m1 := m) A hl' rfl rfl rfl (fun s hs => A.seen h s hs), trivial⟩
  | looksF s hd hs hc hn hk hm ht => exact ⟨p, L.quiet hl' _ rfl rfl rfl (fun v' g h1 h2 => by cases h2), Four.quiet (m1 := m) A hl' rfl rfl rfl (fun s z => by cases z), trivial⟩
  | looksT s hd hs hc hn hk hm ht => exact ⟨p, L.quiet hl' _ rfl rfl rfl (fun v' g h1 h2 => by
      rw [hd] at h1
      cases h1), Four.quiet (m1 := m) A hl' rfl rfl rfl (fun s hs => A.seen h s hs), trivial⟩
  | follows s hd hs hc hn hf => exact ⟨p, L.quiet hl' _ rfl rfl rfl (fun v' g h1 h2 => by
      rw [hd] at h1
      cases h1), Four.quiet (m1 := m) A hl' rfl rfl rfl (fun s hs => A.seen h s hs), trivial⟩
  | exchanges g hd hs hc hn hf =>
    have e' : (m.strayed || m.links.getD (m.top - 1) 0 != g) = false := e
    rw [Bool.or_eq_false_iff] at e'
    have ek : m.links.getD (m.top - 1) 0 = g := by simpa using e'.2
    have t0 : m.top ≠ 0 := by have := K.popC _ hd hs; omega
    obtain ⟨p', ep, L'⟩ := L.didPop (b := m.strayed || m.links.getD (m.top - 1) 0 != g) hl' hd hc t0 ek
    have zp : z.pile = p'.reverse ++ [m.top] := by rw [A.pile, ep, List.reverse_cons]
    have zl : z.pile.getLastD 0 = m.top := by rw [zp]; simp
    have zd : z.pile.dropLast = p'.reverse := by rw [zp, List.dropLast_concat]
    refine ⟨p', L', ⟨?_, A.free, ?_, ?_, seen_set (z := z) A hl' rfl fun s hs => A.seen h s hs⟩, ?_, ?_, ?_⟩
    · show z.pile.dropLast = _
      exact zd
    · show z.have_.set h (z.pile.getLastD 0) = _
      rw [zl]
      show _ = (m.hands.set h _).map (fun y : Hd => y.cell)
      rw [map_cell]
      exact congrArg (fun l : List Nat => l.set h m.top) A.have_
    · show z.seen.length = _
      rw [M.setH_len]
      exact A.sl
    · rw [zp]
      simp
    · rw [zl]
      exact A.seen h _ hs
    · rw [zd]
      have ch : chain m.links g p' := L'.ch
      cases p' with
      | nil => exact ch
      | cons c q =>
        rw [List.reverse_cons]
        simp
        exact ch.1
  | missP s g hd hs hc hn hf hx => exact ⟨p, L.quiet hl' _ rfl rfl rfl (fun v' g h1 h2 => by cases h2), Four.quiet (m1 := m) A hl' rfl rfl rfl (fun s z => by cases z), trivial⟩
end
end SS

set_option linter.all false
/-! In 299 rounds all is done. -/
namespace SS
def M.nu (m : M) (i : Nat) : Nat := 11 * m.mE + 11 * ((m.prog i).length - (m.hd i).at_) + m.rk i
theorem Down.nu {m : M} {h : Nat} (d : Down m (m.step h) h) (hl : h < m.hands.length) (i : Nat) : (m.step h).nu i ≤ m.nu i ∧ (i = h → (m.step h).nu i < m.nu i) := by
  obtain ⟨e1, e2, e3, e4⟩ := step_progs m h
  have ep := step_prog m h
  cases d with
  | decides a b c =>
    have E : (m.step h).mE < m.mE := by
      unfold M.mE
      rw [e3]
      refine sumTo_lt hl (fun i _ ne => by rw [ep, e4 i ne]) ?_
      simp only [ep]
      omega
    have k : (m.step h).rk i ≤ 10 := rank_le ..
    have at_ : (m.hd i).at_ ≤ ((m.step h).hd i).at_ := by
      by_cases z : i = h
      · rw [z]
        exact b
      · rw [e4 i z]
        exact Nat.le_refl _
    unfold M.nu
    rw [ep]
    refine ⟨by omega, fun _ => by omega⟩
  | ends a b c t k r r' =>
    have E : (m.step h).mE = m.mE := by
      unfold M.mE
      rw [e3]
      refine sumTo_same hl (fun i _ ne => by rw [ep, e4 i ne]) ?_
      simp only [ep]
      omega
    by_cases z : i = h
    · subst z
      have r2 : (m.step i).rk i ≤ 6 := by
        unfold M.rk
        rw [ep, t, k, e2]
        exact r'
      unfold M.nu
      rw [ep, E]
      refine ⟨by omega, fun _ => by omega⟩
    · have S : (m.step h).rk i = m.rk i := by
        unfold M.rk
        rw [ep, e4 i z, t, k, e2]
      unfold M.nu
      rw [ep, E, S, e4 i z]
      exact ⟨Nat.le_refl _, fun e => absurd e z⟩
  | goes a b t k r =>
    have E : (m.step h).mE = m.mE := by
      unfold M.mE
      rw [e3]
      refine sumTo_same hl (fun i _ ne => by rw [ep, e4 i ne]) ?_
      simp only [ep]
      omega
    by_cases z : i = h
    · subst z
      have S : (m.step i).rk i < m.rk i := by
        unfold M.rk
        rw [ep, t, k, e2]
        exact r
      unfold M.nu
      rw [ep, E, b]
      refine ⟨by omega, fun _ => by omega⟩
    · have S : (m.step h).rk i = m.rk i := by
        unfold M.rk
        rw [ep, e4 i z, t, k, e2]
      unfold M.nu
      rw [ep, E, S, e4 i z]
      exact ⟨Nat.le_refl _, fun e => absurd e z⟩
variable {ps : List (List Deed)} {r : Rule}
theorem Fine.nu_step {m : M} {h i : Nat} (f : Fine ps r m) (hl : h < ps.length) : (m.step h).nu i ≤ m.nu i ∧ (i = h → m.rests i = false → (m.step h).nu i < m.nu i) := by
  have hl' : h < m.hands.length := by rw [f.hn]; exact hl
  cases hr : m.rests h with
  | true =>
    have es : m.step h = m := by
      unfold M.step
      rw [step_rests hr]
    rw [es]
    exact ⟨Nat.le_refl _, fun e z => by rw [e, hr] at z; cases z⟩
  | false =>
    obtain ⟨h1, h2⟩ := (down hl' (fun c hc => (f.good.fr c hc).1) hr (f.good.hand h hl')).nu hl' i
    exact ⟨h1, fun e _ => h2 e⟩
theorem Fine.nu_run {i : Nat} : ∀ {w : List Nat} {m : M}, Fine ps r m → (∀ h ∈ w, h < ps.length) → (m.run w).nu i ≤ m.nu i
  | [], m, f, _ => Nat.le_refl _
  | h :: w, m, f, hw => by
    have h1 := hw h List.mem_cons_self
    exact Nat.le_trans (Fine.nu_run (w := w) (f.step h1) fun x hx => hw x (List.mem_cons_of_mem _ hx)) (f.nu_step h1).1
theorem rests_step {m : M} {h i : Nat} (n : i ≠ h) : (m.step h).rests i = m.rests i := by
  obtain ⟨e1, e2, e3, e4⟩ := step_progs m h
  unfold M.rests
  rw [e4 i n, step_prog]
theorem rests_stay {m : M} {h i : Nat} (e : m.rests i = true) : (m.step h).rests i = true := by
  by_cases n : i = h
  · subst n
    have es : m.step i = m := by
      unfold M.step
      rw [step_rests e]
    rw [es]
    exact e
  · rw [rests_step n]
    exact e
theorem rests_run {i : Nat} : ∀ {w : List Nat} {m : M}, m.rests i = true → (m.run w).rests i = true
  | [], m, e => e
  | h :: w, m, e => rests_run (w := w) (rests_stay e)
theorem Fine.nu_lt {i : Nat} : ∀ {w : List Nat} {m : M}, Fine ps r m → (∀ h ∈ w, h < ps.length) → i ∈ w → (m.run w).rests i = true ∨ (m.run w).nu i < m.nu i
  | [], m, f, _, hi => by cases hi
  | h :: w, m, f, hw, hi => by
    have h1 := hw h List.mem_cons_self
    have hw' : ∀ x ∈ w, x < ps.length := fun x hx => hw x (List.mem_cons_of_mem _ hx)
    by_cases e : i = h
    · subst e
      cases hr : m.rests i with
      | true => exact .inl (rests_run (w := i :: w) hr)
      | false => exact .inr (Nat.lt_of_le_of_lt ((f.step h1).nu_run hw') ((f.nu_step h1).2 rfl hr))
    · have hi' : i ∈ w := by
        rcases List.mem_cons.mp hi with z | z
        · exact absurd z e
        · exact z
      rcases (f.step h1).nu_lt hw' hi' with z | z
      · exact .inl z
      · exact .inr (Nat.lt_of_lt_of_le z (f.nu_step h1).1)
theorem run_app' : ∀ (a b : List Nat) (m : M), m.run (a ++ b) = (m.run a).run b
  | [], b, m => rfl
  | x :: a, b, m => run_app' a b (m.step x)
theorem Fine.rounds {i n : Nat} (hn : n = ps.length) (hi : i < n) : ∀ (k : Nat) {m : M}, Fine ps r m → (m.run (List.replicate k (List.range n)).flatten).rests i = true ∨ (m.run (List.replicate k (List.range n)).flatten).nu i + k ≤ m.nu i
  | 0, m, f => .inr (Nat.le_refl _)
  | k + 1, m, f => by
    have hw : ∀ h ∈ List.range n, h < ps.length := fun h hh => by rw [← hn]; exact List.mem_range.mp hh
    have e : (List.replicate (k + 1) (List.range n)).flatten = List.range n ++ (List.replicate k (List.range n)).flatten := rfl
    rw [e, run_app']
    have f1 : Fine ps r (m.run (List.range n)) := f.run hw
    rcases f.nu_lt hw (List.mem_range.mpr hi) with z | z
    · exact .inl (rests_run z)
    · rcases Fine.rounds hn hi k f1 with y | y
      · exact .inl y
      · exact .inr (by omega)
theorem Fine.nu_le {m : M} {i : Nat} (f : Fine ps r m) : m.nu i ≤ 186 := by
  have h1 := f.bound (fun i => (m.prog i).length - decd (m.prog i) (m.hd i)) fun i _ => Nat.sub_le _ _
  have h2 : m.rk i ≤ 10 := rank_le ..
  have h3 := getD_len f.dlen i
  have h4 : m.prog i = ps.getD i [] := fine_prog f i
  unfold M.nu M.mE
  rw [h4]
  omega
theorem Fine.all_done {m : M} (f : Fine ps r m) : (m.run (List.replicate 299 (List.range ps.length)).flatten).isDone = true := by
  have hw : ∀ h ∈ (List.replicate 299 (List.range ps.length)).flatten, h < ps.length := fun h hh => by
    obtain ⟨l, h1, h2⟩ := List.mem_flatten.mp hh
    rw [List.eq_of_mem_replicate h1] at h2
    exact List.mem_range.mp h2
  have f2 := f.run hw
  unfold M.isDone
  rw [List.all_eq_true]
  intro i hi
  have hi' : i < ps.length := by rw [← f2.hn]; exact List.mem_range.mp hi
  rcases Fine.rounds rfl hi' 299 f with z | z
  · exact z
  · have := f.nu_le (i := i)
    omega
end SS

set_option Elab.async false
set_option linter.all false
set_option maxRecDepth 100000
set_option maxHeartbeats 4000000
namespace SS
open PySem L2

/-! ### readings by short names -/
abbrev rAddI : R2 := rI0 fun i j => .int (i + j)
abbrev rSubI : R2 := rI0 fun i j => .int (i - j)
abbrev rMulI : R2 := rI CMul fun i j => .int (i * j)
abbrev rModI : R2 := rI (fun _ j => 0 < j) fun i j => .int (i % j)
abbrev rFdivI : R2 := rI CDiv fun i j => .int (i / j)
abbrev rPowI : R2 := rI CPow fun i j => .int (i ^ j.toNat)
abbrev rLtI : R2 := rI0 fun i j => .bl (decide (i < j))
abbrev rLeI : R2 := rI0 fun i j => .bl (decide (i ≤ j))
abbrev rGtI : R2 := rI0 fun i j => .bl (decide (j < i))
abbrev rGeI : R2 := rI0 fun i j => .bl (decide (j ≤ i))
abbrev rNegI : V → Hp → VK → Prop := rU fun i => .int (-i)
abbrev rIsN : R2 := fun x y H Q => y = .non ∧ Q (.bl (decide (x = .non))) H
abbrev rNotN : R2 := fun x y H Q => y = .non ∧ Q (.bl (!decide (x = .non))) H
abbrev rLen1 (K : PySem.W.Frag) : List V → Hp → VK → Prop := fun xs H Q => ∃ p ys, xs = [.ref p] ∧ (SqL K H p ys ∨ SqT K H p ys) ∧ Q (.int ys.length) H
abbrev rListOf (K : PySem.W.Frag) : List V → Hp → VK → Prop := fun xs H Q => ∃ p ys, xs = [.ref p] ∧ (SqL K H p ys ∨ SqT K H p ys) ∧ ∀ l, H l = none → Q (.ref l) (upd H l (.lst ys))
abbrev rTupleOf (K : PySem.W.Frag) : List V → Hp → VK → Prop := fun xs H Q => ∃ p ys, xs = [.ref p] ∧ ((SqL K H p ys ∧ ∀ l, H l = none → Q (.ref l) (upd H l (.tup ys))) ∨ (SqT K H p ys ∧ Q (.ref p) H))
abbrev rInt1 : List V → Hp → VK → Prop := fun xs H Q => (∃ i, xs = [.int i] ∧ Q (.int i) H) ∨ ∃ k, xs = [.bl k] ∧ Q (.int (if k then 1 else 0)) H
abbrev rMax2 : List V → Hp → VK → Prop := fun xs H Q => ∃ i j, xs = [.int i, .int j] ∧ Q (.int (if j > i then j else i)) H
abbrev rMin2 : List V → Hp → VK → Prop := fun xs H Q => ∃ i j, xs = [.int i, .int j] ∧ Q (.int (if j < i then j else i)) H

/-! ### where the classes stand -/
structure Cs where
  K : PySem.W.Frag
  H : Addr
  M : Addr

/-! ### values -/
abbrev natV (n : Nat) : V := .int n
def ansV : Ans → V
  | .non => .non
  | .done => .str "done"
  | .val v => .int v
def optV : Option Nat → V
  | none => .non
  | some n => .int n
def deedVs : Deed → List V
  | .pop => [.str "pop"]
  | .push v => [.str "push", .int v]

structure HA where
  h : Addr
  dx : Addr
  prog : Addr
  said : Addr
structure MA where
  p : Addr
  dx : Addr
  rule : Addr
  worths : Addr
  links : Addr
  freed : Addr
  handsL : Addr
  ends : Addr
  hs : List HA

def hf (a : HA) (sv : V) (x : Hd) : List (Str × V) :=
  [("program", .ref a.prog), ("at", .int x.at_), ("cell", .int x.cell), ("seen", sv), ("follow", optV x.follow), ("mark", .int x.mark), ("looked", .bl x.looked), ("said", .ref a.said)]
def mf (A : MA) (m : M) : List (Str × V) :=
  [("rule", .ref A.rule), ("worths", .ref A.worths), ("links", .ref A.links), ("top", .int m.top), ("count", .int m.count), ("freed", .ref A.freed), ("hands", .ref A.handsL), ("ends", .ref A.ends), ("strayed", .bl m.strayed)]

section
variable (a : HA) (sv : V) (x : Hd) (A : MA) (m : M)
theorem hf_program : (hf a sv x).lookup ("program" : Str) = some (.ref a.prog) := by kernel_rfl
theorem hf_at : (hf a sv x).lookup ("at" : Str) = some (.int x.at_) := by kernel_rfl
theorem hf_cell : (hf a sv x).lookup ("cell" : Str) = some (.int x.cell) := by kernel_rfl
theorem hf_seen : (hf a sv x).lookup ("seen" : Str) = some sv := by kernel_rfl
theorem hf_follow : (hf a sv x).lookup ("follow" : Str) = some (optV x.follow) := by kernel_rfl
theorem hf_mark : (hf a sv x).lookup ("mark" : Str) = some (.int x.mark) := by kernel_rfl
theorem hf_looked : (hf a sv x).lookup ("looked" : Str) = some (.bl x.looked) := by kernel_rfl
theorem hf_said : (hf a sv x).lookup ("said" : Str) = some (.ref a.said) := by kernel_rfl
theorem mf_rule : (mf A m).lookup ("rule" : Str) = some (.ref A.rule) := by kernel_rfl
theorem mf_worths : (mf A m).lookup ("worths" : Str) = some (.ref A.worths) := by kernel_rfl
theorem mf_links : (mf A m).lookup ("links" : Str) = some (.ref A.links) := by kernel_rfl
theorem mf_top : (mf A m).lookup ("top" : Str) = some (.int m.top) := by kernel_rfl
theorem mf_count : (mf A m).lookup ("count" : Str) = some (.int m.count) := by kernel_rfl
theorem mf_freed : (mf A m).lookup ("freed" : Str) = some (.ref A.freed) := by kernel_rfl
theorem mf_hands : (mf A m).lookup ("hands" : Str) = some (.ref A.handsL) := by kernel_rfl
theorem mf_ends : (mf A m).lookup ("ends" : Str) = some (.ref A.ends) := by kernel_rfl
theorem mf_strayed : (mf A m).lookup ("strayed" : Str) = some (.bl m.strayed) := by kernel_rfl
theorem pf_at (n : Nat) : putF "at" (.int n) (hf a sv x) = hf a sv { x with at_ := n } := by kernel_rfl
theorem pf_cell (n : Nat) : putF "cell" (.int n) (hf a sv x) = hf a sv { x with cell := n } := by kernel_rfl
theorem pf_seen (v : V) : putF "seen" v (hf a sv x) = hf a v x := by kernel_rfl
theorem pf_follow (o : Option Nat) : putF "follow" (optV o) (hf a sv x) = hf a sv { x with follow := o } := by kernel_rfl
theorem pf_mark (n : Nat) : putF "mark" (.int n) (hf a sv x) = hf a sv { x with mark := n } := by kernel_rfl
theorem pf_looked (b : Bool) : putF "looked" (.bl b) (hf a sv x) = hf a sv { x with looked := b } := by kernel_rfl
theorem pf_top (n : Nat) : putF "top" (.int n) (mf A m) = mf A { m with top := n } := by kernel_rfl
theorem pf_count (n : Nat) : putF "count" (.int n) (mf A m) = mf A { m with count := n } := by kernel_rfl
theorem pf_strayed (b : Bool) : putF "strayed" (.bl b) (mf A m) = mf A { m with strayed := b } := by kernel_rfl
end
/-- no attribute is a method's name -/
theorem mf_no (A : MA) (m : M) : ∀ x ∈ (["need_hand", "rests", "marks", "taken", "turn", "read", "ended", "forget", "exchange", "push", "pop", "guard", "pile", "is_done", "is_stale", "answers", "marked", "order", "free", "top_now", "nexts", "pile_values", "twin", "state"] : List Str), (mf A m).lookup x = none := by
  intro x hx
  simp only [List.mem_cons, List.not_mem_nil, or_false] at hx
  rcases hx with rfl | rfl | rfl | rfl | rfl | rfl | rfl | rfl | rfl | rfl | rfl | rfl | rfl | rfl | rfl | rfl | rfl | rfl | rfl | rfl | rfl | rfl | rfl | rfl <;> kernel_rfl
end SS

set_option Elab.async false
set_option linter.all false
set_option maxRecDepth 100000
set_option maxHeartbeats 4000000
namespace SS
open PySem L2

/-! ### what evaluates to what, the heap as it stands -/
def Ev (te : TE) (s : L2.St) (H : Hp) (v : V) : Prop := ∀ Q : VK, Q v H → te s H Q
def EvT (tt : TT) (s : L2.St) (H : Hp) (b : Bool) : Prop := ∀ Q : Bool → Hp → Prop, Q b H → tt s H Q
def EvA (ta : TA) (s : L2.St) (H : Hp) (vs : List V) : Prop := ∀ Q : List V → Hp → Prop, Q vs H → ta s H Q
def EvO (to : TO) (s : L2.St) (H : Hp) (o : Option Int) : Prop := ∀ Q : Option Int → Hp → Prop, Q o H → to s H Q
section
variable {K : PySem.W.Frag} {s : L2.St} {H : Hp} {ta tb tc te : TE} {t u : TT} {x y z v : V} {i j : Int}
theorem ev_var {n : Nat} (h : s[n]? = some (some v)) : Ev (tVar n) s H v := fun _ q => ⟨v, h, q⟩
theorem ev_c : Ev (tC v) s H v := fun _ q => q
theorem ev_add (ha : Ev ta s H (.int i)) (hb : Ev tb s H (.int j)) : Ev (tOp rAddI ta tb) s H (.int (i + j)) := fun _ q => ha _ (hb _ ⟨_, _, rfl, rfl, q⟩)
theorem ev_sub (ha : Ev ta s H (.int i)) (hb : Ev tb s H (.int j)) : Ev (tOp rSubI ta tb) s H (.int (i - j)) := fun _ q => ha _ (hb _ ⟨_, _, rfl, rfl, q⟩)
theorem ev_mul (ha : Ev ta s H (.int i)) (hb : Ev tb s H (.int j)) (h : CMul i j) : Ev (tOp rMulI ta tb) s H (.int (i * j)) := fun _ q => ha _ (hb _ ⟨_, _, rfl, rfl, h, q⟩)
theorem ev_mod (ha : Ev ta s H (.int i)) (hb : Ev tb s H (.int j)) (h : 0 < j) : Ev (tOp rModI ta tb) s H (.int (i % j)) := fun _ q => ha _ (hb _ ⟨_, _, rfl, rfl, h, q⟩)
theorem ev_fdiv (ha : Ev ta s H (.int i)) (hb : Ev tb s H (.int j)) (h : CDiv i j) : Ev (tOp rFdivI ta tb) s H (.int (i / j)) := fun _ q => ha _ (hb _ ⟨_, _, rfl, rfl, h, q⟩)
theorem ev_pow (ha : Ev ta s H (.int i)) (hb : Ev tb s H (.int j)) (h : CPow i j) : Ev (tOp rPowI ta tb) s H (.int (i ^ j.toNat)) := fun _ q => ha _ (hb _ ⟨_, _, rfl, rfl, h, q⟩)
theorem ev_neg (ha : Ev ta s H (.int i)) : Ev (tUn rNegI ta) s H (.int (-i)) := fun _ q => ha _ ⟨_, rfl, q⟩
theorem ev_lt (ha : Ev ta s H (.int i)) (hb : Ev tb s H (.int j)) : Ev (tOp rLtI ta tb) s H (.bl (decide (i < j))) := fun _ q => ha _ (hb _ ⟨_, _, rfl, rfl, q⟩)
theorem ev_le (ha : Ev ta s H (.int i)) (hb : Ev tb s H (.int j)) : Ev (tOp rLeI ta tb) s H (.bl (decide (i ≤ j))) := fun _ q => ha _ (hb _ ⟨_, _, rfl, rfl, q⟩)
theorem ev_gt (ha : Ev ta s H (.int i)) (hb : Ev tb s H (.int j)) : Ev (tOp rGtI ta tb) s H (.bl (decide (j < i))) := fun _ q => ha _ (hb _ ⟨_, _, rfl, rfl, q⟩)
theorem ev_ge (ha : Ev ta s H (.int i)) (hb : Ev tb s H (.int j)) : Ev (tOp rGeI ta tb) s H (.bl (decide (j ≤ i))) := fun _ q => ha _ (hb _ ⟨_, _, rfl, rfl, q⟩)
theorem ev_eq (ha : Ev ta s H x) (hb : Ev tb s H y) (h : scal x y = true) : Ev (tOp rEq ta tb) s H (.bl (decide (x = y))) := fun _ q => ha _ (hb _ ⟨h, q⟩)
theorem ev_ne (ha : Ev ta s H x) (hb : Ev tb s H y) (h : scal x y = true) : Ev (tOp rNe ta tb) s H (.bl (!decide (x = y))) := fun _ q => ha _ (hb _ ⟨h, q⟩)
theorem ev_isN (ha : Ev ta s H x) : Ev (tOp rIsN ta (tC .non)) s H (.bl (decide (x = .non))) := fun _ q => ha _ ⟨rfl, q⟩
theorem ev_notN (ha : Ev ta s H x) : Ev (tOp rNotN ta (tC .non)) s H (.bl (!decide (x = .non))) := fun _ q => ha _ ⟨rfl, q⟩
theorem ev_isB {a b : Bool} (ha : Ev ta s H (.bl a)) (hb : Ev tb s H (.bl b)) : Ev (tOp rIsB ta tb) s H (.bl (decide (a = b))) := fun _ q => ha _ (hb _ ⟨_, _, rfl, rfl, q⟩)
theorem ev_notB {a b : Bool} (ha : Ev ta s H (.bl a)) (hb : Ev tb s H (.bl b)) : Ev (tOp rNotB ta tb) s H (.bl (!decide (a = b))) := fun _ q => ha _ (hb _ ⟨_, _, rfl, rfl, q⟩)
theorem ev_eqD {d e : PyData} (ha : Ev ta s H x) (hb : Ev tb s H y) (h1 : Dp K H x d) (h2 : Dp K H y e) (s1 : SeqAt.shaped d = true) (s2 : SeqAt.shaped e = true) : Ev (tOp (rEqD K) ta tb) s H (.bl (PyData.eqv d e)) :=
  fun _ q => ha _ (hb _ ⟨d, e, h1, h2, s1, s2, q⟩)
theorem ev_neD {d e : PyData} (ha : Ev ta s H x) (hb : Ev tb s H y) (h1 : Dp K H x d) (h2 : Dp K H y e) (s1 : SeqAt.shaped d = true) (s2 : SeqAt.shaped e = true) : Ev (tOp (rNeD K) ta tb) s H (.bl (!PyData.eqv d e)) :=
  fun _ q => ha _ (hb _ ⟨d, e, h1, h2, s1, s2, q⟩)
theorem ev_fld {a C dx : Addr} {fs : List (Str × V)} {f : Str} (ha : Ev ta s H (.ref a)) (h : H a = some (.ins C dx fs)) (c : Cls K C) (n : NoAttr K C f) (l : fs.lookup f = some v) : Ev (tFld K ta f) s H v :=
  fun _ q => ha _ ⟨a, C, dx, fs, v, rfl, h, c, n, l, q⟩
theorem ev_ixL {p : Addr} {xs : List V} (ha : Ev ta s H (.ref p)) (hb : Ev tb s H (.int i)) (h : SqL K H p xs) (e : atI xs i = some v) : Ev (tOp (rIxL K) ta tb) s H v := fun _ q => ha _ (hb _ ⟨p, xs, i, v, rfl, rfl, h, e, q⟩)
theorem ev_ixT {p : Addr} {xs : List V} (ha : Ev ta s H (.ref p)) (hb : Ev tb s H (.int i)) (h : SqT K H p xs) (e : atI xs i = some v) : Ev (tOp (rIxT K) ta tb) s H v := fun _ q => ha _ (hb _ ⟨p, xs, i, v, rfl, rfl, h, e, q⟩)
theorem ev_lenL {p : Addr} {xs : List V} (ha : Ev ta s H (.ref p)) (h : SqL K H p xs) : Ev (tCB (rLen1 K) (tCons ta tNil)) s H (.int xs.length) := fun _ q => ha _ ⟨p, xs, rfl, .inl h, q⟩
theorem ev_lenT {p : Addr} {xs : List V} (ha : Ev ta s H (.ref p)) (h : SqT K H p xs) : Ev (tCB (rLen1 K) (tCons ta tNil)) s H (.int xs.length) := fun _ q => ha _ ⟨p, xs, rfl, .inr h, q⟩
theorem ev_inL {p : Addr} {xs : List V} {neg : Bool} (ha : Ev ta s H x) (hb : Ev tb s H (.ref p)) (h : SqL K H p xs) (f : flatV x = true) (g : xs.all flatV = true) : Ev (tOp (rIn K neg) ta tb) s H (.bl (if neg then !inV x xs else inV x xs)) :=
  fun _ q => ha _ (hb _ ⟨p, xs, rfl, .inl h, f, g, q⟩)
theorem ev_inT {p : Addr} {xs : List V} {neg : Bool} (ha : Ev ta s H x) (hb : Ev tb s H (.ref p)) (h : SqT K H p xs) (f : flatV x = true) (g : xs.all flatV = true) : Ev (tOp (rIn K neg) ta tb) s H (.bl (if neg then !inV x xs else inV x xs)) :=
  fun _ q => ha _ (hb _ ⟨p, xs, rfl, .inr h, f, g, q⟩)
theorem ev_int1 {k : Bool} (ha : Ev ta s H (.bl k)) : Ev (tCB rInt1 (tCons ta tNil)) s H (.int (if k then 1 else 0)) := fun _ q => ha _ (.inr ⟨k, rfl, q⟩)
theorem ev_is (h : Ev te s H v) (e : v = z) : Ev te s H z := e ▸ h
theorem ev_andV {a b : Bool} (h1 : Ev ta s H (.bl a)) (h2 : a = true → Ev tb s H (.bl b)) : Ev (tAndV ta tb) s H (.bl (a && b)) := fun Q q => h1 _ ⟨a, rfl, by
  cases a with
  | true => exact h2 rfl _ q
  | false => exact q⟩
theorem ev_orV {a b : Bool} (h1 : Ev ta s H (.bl a)) (h2 : a = false → Ev tb s H (.bl b)) : Ev (tOrV ta tb) s H (.bl (a || b)) := fun Q q => h1 _ ⟨a, rfl, by
  cases a with
  | true => exact q
  | false => exact h2 rfl _ q⟩
theorem ev_notV {a : Bool} (h1 : Ev ta s H (.bl a)) : Ev (tNotV ta) s H (.bl (!a)) := fun _ q => h1 _ ⟨a, rfl, q⟩
theorem ev_if {b : Bool} (h : EvT t s H b) (h1 : b = true → Ev ta s H v) (h2 : b = false → Ev tb s H v) : Ev (tIf t ta tb) s H v := fun Q q => h _ (by
  cases b with
  | true => exact h1 rfl _ q
  | false => exact h2 rfl _ q)
theorem et_test {b : Bool} (h : Ev te s H (.bl b)) : EvT (tTest te) s H b := fun _ q => h _ ⟨b, rfl, q⟩
theorem et_B {b : Bool} (h : Ev te s H (.bl b)) : EvT (tB te) s H b := fun _ q => h _ ⟨b, rfl, q⟩
theorem et_not {b : Bool} (h : EvT t s H b) : EvT (tNot t) s H (!b) := fun _ q => h _ q
theorem et_and {a b : Bool} (h1 : EvT t s H a) (h2 : a = true → EvT u s H b) : EvT (tAnd t u) s H (a && b) := fun Q q => h1 _ (by
  cases a with
  | true => exact h2 rfl _ q
  | false => exact q)
theorem et_or {a b : Bool} (h1 : EvT t s H a) (h2 : a = false → EvT u s H b) : EvT (tOr t u) s H (a || b) := fun Q q => h1 _ (by
  cases a with
  | true => exact q
  | false => exact h2 rfl _ q)
theorem et_yes : EvT tYes s H true := fun _ q => q
theorem et_is {a b : Bool} (h : EvT t s H a) (e : a = b) : EvT t s H b := e ▸ h
theorem ev_chain {r r' : R2} {a b : Bool} {ix iy iz : Int} (ha : Ev ta s H (.int ix)) (hb : Ev tb s H (.int iy)) (hc : Ev tc s H (.int iz))
    (hr : ∀ Q : VK, Q (.bl a) H → r (.int ix) (.int iy) H Q) (hr' : ∀ Q : VK, Q (.bl b) H → r' (.int iy) (.int iz) H Q) : Ev (tChain r r' ta tb tc) s H (.bl (a && b)) := fun Q q =>
  ha _ (hb _ (hr _ ⟨a, rfl, by
    cases a with
    | true => exact hc _ (hr' _ q)
    | false => exact q⟩))
theorem ev_leLe {ix iy iz : Int} (ha : Ev ta s H (.int ix)) (hb : Ev tb s H (.int iy)) (hc : Ev tc s H (.int iz)) : Ev (tChain rLeI rLeI ta tb tc) s H (.bl (decide (ix ≤ iy) && decide (iy ≤ iz))) :=
  ev_chain ha hb hc (fun _ q => ⟨_, _, rfl, rfl, q⟩) (fun _ q => ⟨_, _, rfl, rfl, q⟩)
theorem ev_leLt {ix iy iz : Int} (ha : Ev ta s H (.int ix)) (hb : Ev tb s H (.int iy)) (hc : Ev tc s H (.int iz)) : Ev (tChain rLeI rLtI ta tb tc) s H (.bl (decide (ix ≤ iy) && decide (iy < iz))) :=
  ev_chain ha hb hc (fun _ q => ⟨_, _, rfl, rfl, q⟩) (fun _ q => ⟨_, _, rfl, rfl, q⟩)
theorem ea_nil : EvA tNil s H [] := fun _ q => q
theorem ea_cons {tr : TA} {vs : List V} (h : Ev ta s H x) (hr : EvA tr s H vs) : EvA (tCons ta tr) s H (x :: vs) := fun _ q => h _ (hr _ q)

/-! ### statements -/
variable {D : Ends} {tu tw : TS} {ar : TA} {vs : List V}
theorem s_asg {n : Nat} (h : Ev te s H v) (k : D.nx (s.set n (some v)) H) : tAsg te (gName n) D s H := h _ k
theorem s_ret (h : Ev te s H v) (k : D.rt v H) : tRet te D s H := h _ k
theorem s_if_of (h : t s H (fun b H1 => if b = true then tu D s H1 else tw D s H1)) : tIfS t tu tw D s H := h
theorem t_test_of {Q : Bool → Hp → Prop} (h : te s H (fun x H1 => ∃ k, x = .bl k ∧ Q k H1)) : tTest te s H Q := h
theorem t_B_of {Q : Bool → Hp → Prop} (h : te s H (fun x H1 => ∃ k, x = .bl k ∧ Q k H1)) : tB te s H Q := h
theorem t_op_of {r : R2} {Q : VK} (h : ta s H fun x H1 => tb s H1 fun y H2 => r x y H2 Q) : tOp r ta tb s H Q := h
theorem s_ret_of (h : te s H D.rt) : tRet te D s H := h
theorem s_asg_of {g : TG} (h : te s H (fun x H1 => g x s H1 D.nx)) : tAsg te g D s H := h
theorem t_cons_of {tr : TA} {Q : List V → Hp → Prop} (h : te s H fun x H1 => tr s H1 fun xs H2 => Q (x :: xs) H2) : tCons te tr s H Q := h
theorem t_tup_of {Q : VK} (h : ar s H fun xs H1 => xs.length ≤ sizeLine ∧ ∀ p, H1 p = none → Q (.ref p) (upd H1 p (.tup xs))) : tTup ar s H Q := h
theorem t_lst_of {Q : VK} (h : ar s H fun xs H1 => xs.length ≤ sizeLine ∧ ∀ p, H1 p = none → Q (.ref p) (upd H1 p (.lst xs))) : tLst ar s H Q := h
theorem t_call_of {sp : Sp} {E : XK} {Q : VK} (h : ar s H fun vs H1 => sp vs H1 Q E) : tCall sp [] E ar s H Q := by
  have e : (fun vs H1 => sp (vs ++ []) H1 Q E) = fun vs H1 => sp vs H1 Q E := by
    funext vs H1
    rw [List.append_nil]
  show ar s H (fun vs H1 => sp (vs ++ []) H1 Q E)
  rw [e]
  exact h
theorem t_cb_of {r : List V → Hp → VK → Prop} {Q : VK} (h : ar s H fun vs H1 => r vs H1 Q) : tCB r ar s H Q := h
theorem t_bm_of {T : String} {r : V → List V → Hp → VK → Prop} {to : TE} {Q : VK} (h : to s H fun x H1 => tyV K T x H1 ∧ ar s H1 fun xs H2 => r x xs H2 Q) : tBM K T r to ar s H Q := h
theorem s_seq {t u : TS} (h : t { D with nx := u D } s H) : tSeq t u D s H := h
theorem s_if {b : Bool} (h : EvT t s H b) (h1 : b = true → tu D s H) (h2 : b = false → tw D s H) : tIfS t tu tw D s H := h _ (by
  cases b with
  | true => exact h1 rfl
  | false => exact h2 rfl)
theorem s_ifT (h : EvT t s H true) (h1 : tu D s H) : tIfS t tu tw D s H := h _ h1
theorem s_ifF (h : EvT t s H false) (h1 : tw D s H) : tIfS t tu tw D s H := h _ h1
theorem s_drop' (h : te s H (fun _ H1 => D.nx s H1)) : tDrop te D s H := h
theorem s_drop (h : Ev te s H v) (k : D.nx s H) : tDrop te D s H := h _ k
/-- a field of an own object -/
theorem s_fld {a C dx : Addr} {fs : List (Str × V)} {f : Str} (hv : Ev te s H v) (ha : Ev ta s H (.ref a)) (h : H a = some (.ins C dx fs)) (c : Cls K C) (n : NoAttr K C f) (hl : fs.length < 1000) (k : D.nx s (upd H a (.ins C dx (putF f v fs)))) :
    sFld K ta te f D s H := hv _ (ha _ ⟨a, C, dx, fs, rfl, h, c, n, hl, k⟩)
theorem s_app {l : Addr} {xs : List V} (ha : Ev ta s H (.ref l)) (hl : H l = some (.lst xs)) (h : Ev te s H v) (hz : xs.length < sizeLine) (k : D.nx s (upd H l (.lst (xs ++ [v])))) :
    tDrop (tBM K "list" rAppend ta (tCons te tNil)) D s H := ha _ ⟨Or.inl ⟨rfl, xs, SqL.of hl⟩, h _ ⟨l, xs, v, rfl, rfl, hl, hz, k⟩⟩
theorem s_appX {l : Addr} {xs : List V} (ha : Ev ta s H (.ref l)) (hl : H l = some (.lst xs)) (h : te s H (fun v H1 => ∃ ys, H1 l = some (.lst ys) ∧ ys.length < sizeLine ∧ D.nx s (upd H1 l (.lst (ys ++ [v]))))) :
    tDrop (tBM K "list" rAppend ta (tCons te tNil)) D s H := ha _ ⟨Or.inl ⟨rfl, xs, SqL.of hl⟩, by
  show te s H _
  have e : (fun (v : V) (H1 : Hp) => ∃ ys, H1 l = some (.lst ys) ∧ ys.length < sizeLine ∧ D.nx s (upd H1 l (.lst (ys ++ [v])))) = fun (v : V) (H1 : Hp) => ∃ (l' : Addr) (xs : List V) (y : V), V.ref l = .ref l' ∧ [v] = [y] ∧ H1 l' = some (.lst xs) ∧ xs.length < sizeLine ∧ D.nx s (upd H1 l' (.lst (xs ++ [y]))) := by
    funext v H1
    apply propext
    constructor
    · rintro ⟨ys, h1, h2, h3⟩
      exact ⟨l, ys, v, rfl, rfl, h1, h2, h3⟩
    · rintro ⟨l', ys, y, e1, e2, h1, h2, h3⟩
      cases e1
      cases e2
      exact ⟨ys, h1, h2, h3⟩
  rw [e] at h
  exact h⟩
theorem s_setL {l : Addr} {xs : List V} {j : Nat} (h : Ev te s H v) (ho : Ev ta s H (.ref l)) (hi : Ev tb s H (.int i)) (hl : H l = some (.lst xs)) (hj : ixN xs.length i = some j) (k : D.nx s (upd H l (.lst (xs.set j v)))) :
    tAsg te (gSub ta tb rSetL) D s H := h _ (ho _ (hi _ ⟨l, xs, i, j, rfl, rfl, hl, hj, k⟩))
/-- a call of an own def -/
theorem s_call {sp : Sp} {E : XK} {Q : VK} (h : EvA ar s H vs) (k : sp vs H Q E) : tCall sp [] E ar s H Q := h _ (by rw [List.append_nil]; exact k)
theorem s_meth {C a dx : Addr} {m : Str} {sp : Sp} {E : XK} {fs : List (Str × V)} {Q : VK} (ha : Ev ta s H (.ref a)) (h : H a = some (.ins C dx fs)) (hm : fs.lookup m = none) (hv : EvA ar s H vs) (k : sp (.ref a :: vs) H Q E) :
    tMeth C m sp [] E ta ar s H Q := ha _ ⟨a, dx, fs, rfl, h, hm, hv _ (by simpa using k)⟩
/-- a new tuple -/
theorem e_tup {Q : VK} (h : EvA ar s H vs) (hl : vs.length ≤ 1000) (k : ∀ p, H p = none → Q (.ref p) (upd H p (.tup vs))) : tTup ar s H Q := h _ ⟨Nat.le_trans hl (by decide), k⟩
theorem e_lst {Q : VK} (h : EvA ar s H vs) (hl : vs.length ≤ 1000) (k : ∀ p, H p = none → Q (.ref p) (upd H p (.lst vs))) : tLst ar s H Q := h _ ⟨Nat.le_trans hl (by decide), k⟩
theorem e_listOf {Q : VK} {p : Addr} {xs : List V} (ha : Ev ta s H (.ref p)) (h : SqL K H p xs ∨ SqT K H p xs) (k : ∀ l, H l = none → Q (.ref l) (upd H l (.lst xs))) : tCB (rListOf K) (tCons ta tNil) s H Q :=
  ha _ ⟨p, xs, rfl, h, k⟩

/-! ### loops and comprehensions -/
abbrev Turn (D : Addr) (g : TG) (tt : TT) (te : TE) (vs : List Nat) (s : L2.St) (P : Hp → Prop) (x : V) (H : Hp) : Prop :=
  g x (wipe s vs) H fun s2 H2 => wipe s2 vs = wipe s vs ∧ tt s2 H2 fun b H3 => if b = true then te s2 H3 fun y H4 => ∃ acc, H4 D = some (.lst acc) ∧ acc.length < sizeLine ∧ P (upd H4 D (.lst (acc ++ [y]))) else P H3
theorem e_lcL {tl : TE} {g : TG} {ws : List Nat} {a : Addr} {xs : List V} {Q : VK} (ht : Ev tl s H (.ref a)) (h : SqL K H a xs) (Pv : Addr → Nat → Hp → Prop) (h0 : ∀ D, H D = none → Pv D 0 (upd H D (.lst [])))
    (hl : ∀ D i H', i ≤ xs.length → H D = none → Pv D i H' → SqL K H' a xs) (hs : ∀ D i x H', xs[i]? = some x → H D = none → Pv D i H' → Turn D g t te ws s (Pv D (i + 1)) x H')
    (hd : ∀ D H', H D = none → Pv D xs.length H' → Q (.ref D) H') : tLc (iList K tl) g t te ws s H Q :=
  ht _ ⟨a, rfl, ⟨_, h⟩, fun D hD => lc_list (xs := xs) (Pv D) (h0 D hD) (fun i H' hi p => hl D i H' hi hD p) (fun i x H' hx p => hs D i x H' hx hD p) fun H' p => hd D H' hD p⟩
theorem e_lcT {tl : TE} {g : TG} {ws : List Nat} {a : Addr} {xs : List V} {Q : VK} (ht : Ev tl s H (.ref a)) (h : SqT K H a xs) (Pv : Addr → Nat → Hp → Prop) (h0 : ∀ D, H D = none → Pv D 0 (upd H D (.lst [])))
    (hl : ∀ D i H', i ≤ xs.length → H D = none → Pv D i H' → SqT K H' a xs) (hs : ∀ D i x H', xs[i]? = some x → H D = none → Pv D i H' → Turn D g t te ws s (Pv D (i + 1)) x H')
    (hd : ∀ D H', H D = none → Pv D xs.length H' → Q (.ref D) H') : tLc (iTup K tl) g t te ws s H Q :=
  ht _ ⟨a, rfl, ⟨_, h⟩, fun D hD => lc_tup (xs := xs) (Pv D) (h0 D hD) (fun i H' hi p => hl D i H' hi hD p) (fun i x H' hx p => hs D i x H' hx hD p) fun H' p => hd D H' hD p⟩
theorem e_lcR {tl : TE} {g : TG} {ws : List Nat} {n : Nat} {Q : VK} (ht : Ev tl s H (.int n)) (hn : n ≤ 1000000) (Pv : Addr → Nat → Hp → Prop) (h0 : ∀ D, H D = none → Pv D 0 (upd H D (.lst [])))
    (hs : ∀ D (i : Nat) H', i < n → H D = none → Pv D i H' → Turn D g t te ws s (Pv D (i + 1)) (.int i) H')
    (hd : ∀ D H', H D = none → Pv D n H' → Q (.ref D) H') : tLc (iRng1 (tCons tl tNil)) g t te ws s H Q :=
  ht _ ⟨n, rfl, by omega, by omega, fun D hD => lc_range (lo := 0) (n := n) (Pv D) (h0 D hD) (fun i H' hi p => by
    have e0 : (0 : Int) + (i : Int) = (i : Int) := Int.zero_add _
    rw [e0]
    exact hs D i H' hi hD p) fun H' p => hd D H' hD p⟩
theorem s_forL {tl : TE} {g : TG} {tb : TS} {a : Addr} {xs : List V} (ht : Ev tl s H (.ref a)) (h : SqL K H a xs) (Pv : Nat → L2.St → Hp → Prop) (h0 : Pv 0 s H)
    (hl : ∀ i s' H', i ≤ xs.length → Pv i s' H' → SqL K H' a xs) (hs : ∀ i x s' H', xs[i]? = some x → Pv i s' H' → g x s' H' fun s2 H2 => tb { D with nx := Pv (i + 1), ct := Pv (i + 1), bk := D.nx } s2 H2)
    (hd : ∀ s' H', Pv xs.length s' H' → D.nx s' H') : tFor (iList K tl) g tb D s H := ht _ ⟨a, rfl, ⟨_, h⟩, for_list (xs := xs) Pv h0 hl hs hd⟩
/-- over a list that is made on the way -/
theorem s_forLN {tl : TE} {g : TG} {tb : TS} {xs : List V} (Pv : Addr → Nat → L2.St → Hp → Prop)
    (ht : ∀ R : VK, (∀ a H', H a = none → Same H H' → H' a = some (.lst xs) → R (.ref a) H') → tl s H R)
    (h0 : ∀ a H', H a = none → Same H H' → H' a = some (.lst xs) → Pv a 0 s H') (hl : ∀ a i s' H', i ≤ xs.length → H a = none → Pv a i s' H' → SqL K H' a xs)
    (hs : ∀ a i x s' H', xs[i]? = some x → H a = none → Pv a i s' H' → g x s' H' fun s2 H2 => tb { D with nx := Pv a (i + 1), ct := Pv a (i + 1), bk := D.nx } s2 H2)
    (hd : ∀ a s' H', H a = none → Pv a xs.length s' H' → D.nx s' H') : tFor (iList K tl) g tb D s H :=
  ht _ fun a H' ha c hL => ⟨a, rfl, ⟨_, SqL.of hL⟩, for_list (xs := xs) (Pv a) (h0 a H' ha c hL) (fun i s' H' hi p => hl a i s' H' hi ha p) (fun i x s' H' hx p => hs a i x s' H' hx ha p) fun s' H' p => hd a s' H' ha p⟩
theorem s_forT {tl : TE} {g : TG} {tb : TS} {a : Addr} {xs : List V} (ht : Ev tl s H (.ref a)) (h : SqT K H a xs) (Pv : Nat → L2.St → Hp → Prop) (h0 : Pv 0 s H)
    (hl : ∀ i s' H', i ≤ xs.length → Pv i s' H' → SqT K H' a xs) (hs : ∀ i x s' H', xs[i]? = some x → Pv i s' H' → g x s' H' fun s2 H2 => tb { D with nx := Pv (i + 1), ct := Pv (i + 1), bk := D.nx } s2 H2)
    (hd : ∀ s' H', Pv xs.length s' H' → D.nx s' H') : tFor (iTup K tl) g tb D s H := ht _ ⟨a, rfl, ⟨_, h⟩, for_tup (xs := xs) Pv h0 hl hs hd⟩
theorem s_forR {tl : TE} {g : TG} {tb : TS} {n : Nat} (ht : Ev tl s H (.int n)) (hn : n ≤ 1000000) (Pv : Nat → L2.St → Hp → Prop) (h0 : Pv 0 s H)
    (hs : ∀ (i : Nat) s' H', i < n → Pv i s' H' → g (.int i) s' H' fun s2 H2 => tb { D with nx := Pv (i + 1), ct := Pv (i + 1), bk := D.nx } s2 H2)
    (hd : ∀ s' H', Pv n s' H' → D.nx s' H') : tFor (iRng1 (tCons tl tNil)) g tb D s H := ht _ ⟨n, rfl, by omega, by omega, for_range (lo := 0) (n := n) Pv h0 (fun i s' H' hi p => by
    have e0 : (0 : Int) + (i : Int) = (i : Int) := Int.zero_add _
    rw [e0]
    exact hs i s' H' hi p) hd⟩
theorem s_while {c : TT} {tb : TS} (Pv : L2.St → Hp → Prop) (mu : L2.St → Hp → Nat) (h0 : Pv s H)
    (hs : ∀ s' H', Pv s' H' → (EvT c s' H' false ∧ D.nx s' H') ∨ (EvT c s' H' true ∧ tb { D with nx := fun s2 H2 => Pv s2 H2 ∧ mu s2 H2 < mu s' H', ct := fun s2 H2 => Pv s2 H2 ∧ mu s2 H2 < mu s' H', bk := D.nx } s' H')) : tWhile c tb D s H := by
  refine ⟨fun m s H => m = mu s H ∧ Pv s H, ⟨_, rfl, h0⟩, ?_⟩
  rintro m s' H' ⟨rfl, p⟩
  rcases hs s' H' p with ⟨e, q⟩ | ⟨e, q⟩
  · exact e _ q
  · exact e _ ⟨_, fun s2 H2 ⟨p2, l⟩ => ⟨_, l, rfl, p2⟩, q⟩
/-- the range's end is reckoned on the way -/
theorem e_lcRX {tl : TE} {g : TG} {ws : List Nat} {Q : VK} (Good : Nat → Hp → Prop) (ht : ∀ R : VK, (∀ (n : Nat) H1, Good n H1 → R (.int n) H1) → tl s H R)
    (k : ∀ (n : Nat) H1, Good n H1 → tLc (iRng1 (tCons (tC (.int n)) tNil)) g t te ws s H1 Q) : tLc (iRng1 (tCons tl tNil)) g t te ws s H Q :=
  ht _ fun n H1 h => k n H1 h
theorem s_forRX {tl : TE} {g : TG} {tb : TS} (Good : Nat → Hp → Prop) (ht : ∀ R : VK, (∀ (n : Nat) H1, Good n H1 → R (.int n) H1) → tl s H R)
    (k : ∀ (n : Nat) H1, Good n H1 → tFor (iRng1 (tCons (tC (.int n)) tNil)) g tb D s H1) : tFor (iRng1 (tCons tl tNil)) g tb D s H :=
  ht _ fun n H1 h => k n H1 h
abbrev rInsert : V → List V → Hp → VK → Prop := fun x vs H Q => ∃ (l : Addr) (xs : List V) (i : Int) (y : V), x = .ref l ∧ vs = [.int i, y] ∧ H l = some (.lst xs) ∧ xs.length < sizeLine ∧ 0 ≤ i ∧ i < 2 ^ 63 ∧ Q .non (upd H l (.lst (xs.take i.toNat ++ [y] ++ xs.drop i.toNat)))
theorem s_whileN {c : TT} {tb : TS} (Pv : Nat → L2.St → Hp → Prop) (h0 : ∃ n, Pv n s H)
    (hs : ∀ n s' H', Pv n s' H' → c s' H' fun b H1 => if b = true then tb { D with nx := fun s2 H2 => ∃ m, m < n ∧ Pv m s2 H2, ct := fun s2 H2 => ∃ m, m < n ∧ Pv m s2 H2, bk := D.nx } s' H1 else D.nx s' H1)
    (mono : ∀ s' H' R R', (∀ b H1, R b H1 → R' b H1) → c s' H' R → c s' H' R') : tWhile c tb D s H := by
  refine ⟨Pv, h0, fun n s' H' p => mono s' H' _ _ (fun b H1 q => ?_) (hs n s' H' p)⟩
  cases b with
  | true => exact ⟨_, fun s2 H2 z => z, q⟩
  | false => exact q
theorem t_make_of {C : Addr} {sp : Sp} {E : XK} {Q : VK} (h : ar s H fun vs H1 => ∀ x dx, H1 x = none → H1 dx = none → dx ≠ x → sp (.ref x :: vs) (upd (upd H1 dx (.own x)) x (.ins C dx [])) (fun v H2 => v = .non ∧ Q (.ref x) H2) E) : tMake C sp [] E ar s H Q := by
  have e : (fun vs H1 => ∀ x dx, H1 x = none → H1 dx = none → dx ≠ x → sp (.ref x :: vs) (upd (upd H1 dx (.own x)) x (.ins C dx [])) (fun v H2 => v = .non ∧ Q (.ref x) H2) E) =
      fun vs H1 => ∀ x dx, H1 x = none → H1 dx = none → dx ≠ x → sp (.ref x :: (vs ++ [])) (upd (upd H1 dx (.own x)) x (.ins C dx [])) (fun v H2 => v = .non ∧ Q (.ref x) H2) E := by
    funext vs H1
    rw [List.append_nil]
  rw [e] at h
  exact h
end
end SS

set_option Elab.async false
set_option linter.all false
set_option maxRecDepth 100000
set_option maxHeartbeats 4000000
namespace SS
open PySem L2

/-! ### what changes -/
/-- tuples, locked things -/
def stay : HO → Prop
  | .tup _ => True
  | .frz _ _ => True
  | _ => False
/-- but for what F names all that was tracked stands; tuples, and what is locked, stand anyway -/
structure Chg (F : Addr → Prop) (H H' : Hp) : Prop where
  keep : ∀ b o, H b = some o → ¬ F b → H' b = some o
  fix_ : ∀ b o, H b = some o → stay o → H' b = some o
theorem Chg.tup {F : Addr → Prop} {H H' : Hp} (c : Chg F H H') : ∀ b xs, H b = some (.tup xs) → H' b = some (.tup xs) := fun b _ h => c.fix_ b _ h trivial
theorem Chg.frz {F : Addr → Prop} {H H' : Hp} (c : Chg F H H') {b : Addr} {o : Obj} {u : HO} (h : H b = some (.frz o u)) : H' b = some (.frz o u) := c.fix_ b _ h trivial
theorem Chg.refl (F : Addr → Prop) (H : Hp) : Chg F H H := ⟨fun _ _ h _ => h, fun _ _ h _ => h⟩
theorem Chg.trans {F : Addr → Prop} {H H1 H2 : Hp} (a : Chg F H H1) (b : Chg F H1 H2) : Chg F H H2 :=
  ⟨fun c o h n => b.keep c o (a.keep c o h n) n, fun c o h s => b.fix_ c o (a.fix_ c o h s) s⟩
theorem Chg.mono {F G : Addr → Prop} {H H' : Hp} (a : Chg F H H') (h : ∀ b, F b → G b) : Chg G H H' := ⟨fun c o e n => a.keep c o e fun z => n (h c z), a.fix_⟩
theorem Chg.same {F : Addr → Prop} {H H' : Hp} (a : Same H H') : Chg F H H' := ⟨fun b o h _ => a b o h, fun b o h _ => a b o h⟩
theorem Same.new {H : Hp} {p : Addr} {o : HO} (h : H p = none) : Same H (upd H p o) := fun b u e => by rw [upd_ne (ne_of_none e h)]; exact e
/-- something that may be changed, at an address of F, is put -/
theorem Chg.put {F : Addr → Prop} {H : Hp} {a : Addr} {o : HO} (hF : F a) (nt : ∀ u, H a = some u → ¬ stay u) : Chg F H (upd H a o) :=
  ⟨fun b u e n => by
    have hb : b ≠ a := fun z => n (by rw [z]; exact hF)
    rw [upd_ne hb]
    exact e, fun b u e s => by
    have hb : b ≠ a := fun z => nt u (by rw [← z]; exact e) s
    rw [upd_ne hb]
    exact e⟩

/-! ### data that stands -/
def SeenAt (H : Hp) (v : V) : Option (Nat × Nat) → Prop
  | none => v = .non
  | some (t, k) => ∃ q, v = .ref q ∧ H q = some (.tup [.int t, .int k])
def PairAt (H : Hp) (v : V) (p : Nat × Nat) : Prop := ∃ q, v = .ref q ∧ H q = some (.tup [.int p.1, .int p.2])
def DeedAt (H : Hp) (v : V) (d : Deed) : Prop := ∃ q, v = .ref q ∧ H q = some (.tup (deedVs d))
def RuleAt (H : Hp) (a : Addr) : Rule → Prop
  | .counts m => H a = some (.tup [.str "counts", .int m])
  | .marks hs => ∃ t, H a = some (.tup [.str "marks", .ref t]) ∧ H t = some (.tup (hs.map natV))
  | .keeps => H a = some (.tup [.str "keeps"])
inductive All2 {α β : Type} (R : α → β → Prop) : List α → List β → Prop where
  | nil : All2 R [] []
  | cons {a b l m} : R a b → All2 R l m → All2 R (a :: l) (b :: m)
theorem All2.mono {α β : Type} {R S : α → β → Prop} (h : ∀ a b, R a b → S a b) : ∀ {l m}, All2 R l m → All2 S l m
  | _, _, .nil => .nil
  | _, _, .cons r t => .cons (h _ _ r) (All2.mono h t)
theorem All2.length {α β : Type} {R : α → β → Prop} : ∀ {l m}, All2 R l m → l.length = m.length
  | _, _, .nil => rfl
  | _, _, .cons _ t => by simp [All2.length t]
theorem All2.get {α β : Type} {R : α → β → Prop} : ∀ {l m} (i : Nat) {b : β}, All2 R l m → m[i]? = some b → ∃ a, l[i]? = some a ∧ R a b
  | _, _, i, b, .nil, h => by simp at h
  | _, _, 0, b, .cons r t, h => ⟨_, rfl, by have e := Option.some.inj h; subst e; exact r⟩
  | _, _, i + 1, b, .cons r t, h => All2.get i t h
theorem All2.snoc {α β : Type} {R : α → β → Prop} {a : α} {b : β} (h : R a b) : ∀ {l m}, All2 R l m → All2 R (l ++ [a]) (m ++ [b])
  | _, _, .nil => .cons h .nil
  | _, _, .cons r t => .cons r (All2.snoc h t)
theorem All2.map {α β γ : Type} {R : α → β → Prop} {f : γ → α} {g : γ → β} : ∀ {l : List γ}, (∀ c ∈ l, R (f c) (g c)) → All2 R (l.map f) (l.map g)
  | [], _ => .nil
  | c :: l, h => .cons (h c List.mem_cons_self) (All2.map fun d hd => h d (List.mem_cons_of_mem _ hd))

section
variable {H H' : Hp}
abbrev Tups (H H' : Hp) : Prop := ∀ b xs, H b = some (.tup xs) → H' b = some (.tup xs)
theorem SeenAt.mono (t : Tups H H') {v : V} : ∀ {o : Option (Nat × Nat)}, SeenAt H v o → SeenAt H' v o
  | none, h => h
  | some (_, _), ⟨q, e, h⟩ => ⟨q, e, t _ _ h⟩
theorem PairAt.mono (t : Tups H H') {v : V} {p : Nat × Nat} (h : PairAt H v p) : PairAt H' v p := let ⟨q, e, h⟩ := h; ⟨q, e, t _ _ h⟩
theorem DeedAt.mono (t : Tups H H') {v : V} {p : Deed} (h : DeedAt H v p) : DeedAt H' v p := let ⟨q, e, h⟩ := h; ⟨q, e, t _ _ h⟩
theorem RuleAt.mono (t : Tups H H') {a : Addr} : ∀ {r : Rule}, RuleAt H a r → RuleAt H' a r
  | .counts _, h => t _ _ h
  | .marks _, ⟨q, h1, h2⟩ => ⟨q, t _ _ h1, t _ _ h2⟩
  | .keeps, h => t _ _ h
end

/-! ### the machine, part by part -/
inductive Role where
  | m | worths | links | freed | handsL | ends
  | hand (i : Nat) | said (i : Nat) | prog (i : Nat)
  deriving DecidableEq
def MA.at (A : MA) : Role → Option Addr
  | .m => some A.p
  | .worths => some A.worths
  | .links => some A.links
  | .freed => some A.freed
  | .handsL => some A.handsL
  | .ends => some A.ends
  | .hand i => (A.hs[i]?).map (·.h)
  | .said i => (A.hs[i]?).map (·.said)
  | .prog i => (A.hs[i]?).map (·.prog)
def MA.owns (A : MA) (a : Addr) : Prop := ∃ r, A.at r = some a
def Cont (Z : Cs) (H : Hp) (A : MA) (m : M) : Role → HO → Prop
  | .m, o => o = .ins Z.M A.dx (mf A m)
  | .worths, o => o = .lst (m.worths.map V.int)
  | .links, o => o = .lst (m.links.map natV)
  | .freed, o => o = .lst (m.freed.map natV)
  | .handsL, o => o = .lst (A.hs.map fun a => V.ref a.h)
  | .ends, o => ∃ vs, o = .lst vs ∧ All2 (PairAt H) vs m.ends
  | .hand i, o => ∃ a sv, A.hs[i]? = some a ∧ o = .ins Z.H a.dx (hf a sv (m.hd i)) ∧ SeenAt H sv (m.hd i).seen
  | .said i, o => o = .lst ((m.hd i).said.map ansV)
  | .prog i, o => ∃ vs, o = .lst vs ∧ All2 (DeedAt H) vs (m.prog i)
structure MachAt (Z : Cs) (H : Hp) (A : MA) (m : M) : Prop where
  at_ : ∀ r a, A.at r = some a → ∃ o, H a = some o ∧ Cont Z H A m r o
  rule : RuleAt H A.rule m.rule
  hs : A.hs.length = m.hands.length
  ps : m.progs.length = m.hands.length
  sep : ∀ r r' a, A.at r = some a → A.at r' = some a → r = r'
section
variable {Z : Cs} {H H' : Hp} {A : MA} {m m' : M}
theorem Cont.mono (t : Tups H H') {r : Role} {o : HO} (h : Cont Z H A m r o) : Cont Z H' A m r o := by
  cases r with
  | ends => obtain ⟨vs, e, h⟩ := h; exact ⟨vs, e, h.mono fun _ _ => PairAt.mono t⟩
  | hand i => obtain ⟨a, sv, h1, h2, h3⟩ := h; exact ⟨a, sv, h1, h2, h3.mono t⟩
  | prog i => obtain ⟨vs, e, h⟩ := h; exact ⟨vs, e, h.mono fun _ _ => DeedAt.mono t⟩
  | _ => exact h
theorem Cont.nostay {r : Role} {u : HO} (h : Cont Z H A m r u) : ¬ stay u := by
  cases r with
  | ends => obtain ⟨vs, rfl, h⟩ := h; exact fun z => z
  | hand i => obtain ⟨a, sv, h1, rfl, h3⟩ := h; exact fun z => z
  | prog i => obtain ⟨vs, rfl, h⟩ := h; exact fun z => z
  | _ => (have e : u = _ := h); subst e; exact fun z => z
theorem MachAt.nostay (T : MachAt Z H A m) {a : Addr} (h : A.owns a) (u : HO) (e : H a = some u) : ¬ stay u := by
  obtain ⟨r, hr⟩ := h
  obtain ⟨o, ho, hc⟩ := T.at_ r a hr
  rw [ho] at e
  cases e
  exact hc.nostay
/-- all that the machine owns stands -/
theorem MachAt.chg {F : Addr → Prop} (T : MachAt Z H A m) (c : Chg F H H') (d : ∀ a, A.owns a → ¬ F a) : MachAt Z H' A m where
  at_ := fun r a ha => by
    obtain ⟨o, ho, hc⟩ := T.at_ r a ha
    exact ⟨o, c.keep a o ho (d a ⟨r, ha⟩), hc.mono c.tup⟩
  rule := T.rule.mono c.tup
  hs := T.hs
  ps := T.ps
  sep := T.sep
theorem MachAt.same (T : MachAt Z H A m) (c : Same H H') : MachAt Z H' A m := T.chg (F := fun _ => False) (Chg.same c) fun _ _ z => z
theorem MachAt.new (T : MachAt Z H A m) {p : Addr} {o : HO} (h : H p = none) : MachAt Z (upd H p o) A m := T.same (Same.new h)
/-- one part is changed -/
theorem MachAt.put (T : MachAt Z H A m) {r : Role} {a : Addr} {o : HO} (ha : A.at r = some a) (hc : ∀ H', Tups H H' → Cont Z H' A m' r o) (oth : ∀ r' u, r' ≠ r → Cont Z H A m r' u → Cont Z H A m' r' u)
    (hr : m'.rule = m.rule) (hh : m'.hands.length = m.hands.length) (hp : m'.progs = m.progs) : MachAt Z (upd H a o) A m' ∧ Chg A.owns H (upd H a o) := by
  have c : Chg A.owns H (upd H a o) := Chg.put ⟨r, ha⟩ (T.nostay ⟨r, ha⟩)
  refine ⟨⟨fun r' b hb => ?_, by rw [hr]; exact T.rule.mono c.tup, by rw [hh]; exact T.hs, by rw [hh, hp]; exact T.ps, T.sep⟩, c⟩
  by_cases e : r' = r
  · subst e
    rw [ha] at hb
    cases hb
    exact ⟨o, upd_same, hc _ c.tup⟩
  · obtain ⟨u, hu, hcu⟩ := T.at_ r' b hb
    have nb : b ≠ a := fun z => e (T.sep r' r b hb (by rw [z]; exact ha))
    exact ⟨u, by rw [upd_ne nb]; exact hu, (oth r' u e hcu).mono c.tup⟩

/-! ### reading the parts -/
theorem MachAt.obj (T : MachAt Z H A m) : H A.p = some (.ins Z.M A.dx (mf A m)) := by
  obtain ⟨o, ho, rfl⟩ := T.at_ .m A.p rfl
  exact ho
theorem MachAt.worthsL (T : MachAt Z H A m) : H A.worths = some (.lst (m.worths.map V.int)) := by
  obtain ⟨o, ho, rfl⟩ := T.at_ .worths _ rfl
  exact ho
theorem MachAt.linksL (T : MachAt Z H A m) : H A.links = some (.lst (m.links.map natV)) := by
  obtain ⟨o, ho, rfl⟩ := T.at_ .links _ rfl
  exact ho
theorem MachAt.freedL (T : MachAt Z H A m) : H A.freed = some (.lst (m.freed.map natV)) := by
  obtain ⟨o, ho, rfl⟩ := T.at_ .freed _ rfl
  exact ho
theorem MachAt.handsLL (T : MachAt Z H A m) : H A.handsL = some (.lst (A.hs.map fun a => V.ref a.h)) := by
  obtain ⟨o, ho, rfl⟩ := T.at_ .handsL _ rfl
  exact ho
theorem MachAt.endsL (T : MachAt Z H A m) : ∃ vs, H A.ends = some (.lst vs) ∧ All2 (PairAt H) vs m.ends := by
  obtain ⟨o, ho, vs, rfl, h⟩ := T.at_ .ends _ rfl
  exact ⟨vs, ho, h⟩
theorem MachAt.handO (T : MachAt Z H A m) {i : Nat} {a : HA} (h : A.hs[i]? = some a) : ∃ sv, H a.h = some (.ins Z.H a.dx (hf a sv (m.hd i))) ∧ SeenAt H sv (m.hd i).seen := by
  obtain ⟨o, ho, b, sv, hb, rfl, hs⟩ := T.at_ (.hand i) a.h (by simp [MA.at, h])
  rw [h] at hb
  cases hb
  exact ⟨sv, ho, hs⟩
theorem MachAt.saidL (T : MachAt Z H A m) {i : Nat} {a : HA} (h : A.hs[i]? = some a) : H a.said = some (.lst ((m.hd i).said.map ansV)) := by
  obtain ⟨o, ho, rfl⟩ := T.at_ (.said i) a.said (by simp [MA.at, h])
  exact ho
theorem MachAt.progL (T : MachAt Z H A m) {i : Nat} {a : HA} (h : A.hs[i]? = some a) : ∃ vs, H a.prog = some (.lst vs) ∧ All2 (DeedAt H) vs (m.prog i) := by
  obtain ⟨o, ho, vs, rfl, h⟩ := T.at_ (.prog i) a.prog (by simp [MA.at, h])
  exact ⟨vs, ho, h⟩
theorem MachAt.hand_of (T : MachAt Z H A m) {i : Nat} (h : i < m.hands.length) : ∃ a, A.hs[i]? = some a := ⟨A.hs[i]'(by rw [T.hs]; exact h), List.getElem?_eq_getElem _⟩
theorem handV {i : Nat} {a : HA} (h : A.hs[i]? = some a) : atI (A.hs.map fun a => V.ref a.h) (i : Int) = some (.ref a.h) := atI_nat (by rw [List.getElem?_map, h] <;> rfl)

/-! ### writing them -/
/-- the machine's own ints and bool -/
theorem MachAt.setM (T : MachAt Z H A m) (t k : Nat) (b : Bool) :
    MachAt Z (upd H A.p (.ins Z.M A.dx (mf A { m with top := t, count := k, strayed := b }))) A { m with top := t, count := k, strayed := b } ∧ Chg A.owns H (upd H A.p (.ins Z.M A.dx (mf A { m with top := t, count := k, strayed := b }))) :=
  T.put (r := .m) rfl (fun _ _ => rfl) (fun r' u ne h => by cases r' <;> first | exact absurd rfl ne | exact h) rfl rfl rfl
theorem MachAt.setWorths (T : MachAt Z H A m) (w : List Int) : MachAt Z (upd H A.worths (.lst (w.map V.int))) A { m with worths := w } ∧ Chg A.owns H (upd H A.worths (.lst (w.map V.int))) :=
  T.put (r := .worths) rfl (fun _ _ => rfl) (fun r' u ne h => by cases r' <;> first | exact absurd rfl ne | exact h) rfl rfl rfl
theorem MachAt.setLinks (T : MachAt Z H A m) (w : List Nat) : MachAt Z (upd H A.links (.lst (w.map natV))) A { m with links := w } ∧ Chg A.owns H (upd H A.links (.lst (w.map natV))) :=
  T.put (r := .links) rfl (fun _ _ => rfl) (fun r' u ne h => by cases r' <;> first | exact absurd rfl ne | exact h) rfl rfl rfl
theorem MachAt.setFreed (T : MachAt Z H A m) (w : List Nat) : MachAt Z (upd H A.freed (.lst (w.map natV))) A { m with freed := w } ∧ Chg A.owns H (upd H A.freed (.lst (w.map natV))) :=
  T.put (r := .freed) rfl (fun _ _ => rfl) (fun r' u ne h => by cases r' <;> first | exact absurd rfl ne | exact h) rfl rfl rfl
theorem MachAt.addEnd (T : MachAt Z H A m) {vs : List V} {v : V} {p : Nat × Nat} (hv : All2 (PairAt H) vs m.ends) (hp : PairAt H v p) :
    MachAt Z (upd H A.ends (.lst (vs ++ [v]))) A { m with ends := m.ends ++ [p] } ∧ Chg A.owns H (upd H A.ends (.lst (vs ++ [v]))) :=
  T.put (r := .ends) rfl (fun _ t => ⟨_, rfl, (hv.mono fun _ _ => PairAt.mono t).snoc (hp.mono t)⟩) (fun r' u ne h => by cases r' <;> first | exact absurd rfl ne | exact h) rfl rfl rfl
/-- a hand's attributes -/
theorem MachAt.setHand (T : MachAt Z H A m) {i : Nat} {a : HA} {sv : V} {x : Hd} (h : A.hs[i]? = some a) (hs : SeenAt H sv x.seen) (he : x.said = (m.hd i).said) :
    MachAt Z (upd H a.h (.ins Z.H a.dx (hf a sv x))) A (m.setH i x) ∧ Chg A.owns H (upd H a.h (.ins Z.H a.dx (hf a sv x))) := by
  have hl : i < m.hands.length := by
    rw [← T.hs]
    exact (List.getElem?_eq_some_iff.mp h).1
  refine T.put (r := .hand i) (by simp [MA.at, h]) (fun _ t => ⟨a, sv, h, by rw [M.setH_hd hl], by rw [M.setH_hd hl]; exact hs.mono t⟩) (fun r' u ne hc => ?_) rfl M.setH_len rfl
  cases r' with
  | hand j =>
    have e : j ≠ i := fun e => ne (by rw [e])
    show ∃ a sv, _
    rw [M.setH_ne hl e]
    exact hc
  | said j =>
    show u = _
    by_cases e : j = i
    · subst e
      rw [M.setH_hd hl, he]
      exact hc
    · rw [M.setH_ne hl e]
      exact hc
  | _ => exact hc
/-- what a hand has said -/
theorem MachAt.setSaid (T : MachAt Z H A m) {i : Nat} {a : HA} (h : A.hs[i]? = some a) (w : List Ans) :
    MachAt Z (upd H a.said (.lst (w.map ansV))) A (m.setH i { m.hd i with said := w }) ∧ Chg A.owns H (upd H a.said (.lst (w.map ansV))) := by
  have hl : i < m.hands.length := by
    rw [← T.hs]
    exact (List.getElem?_eq_some_iff.mp h).1
  refine T.put (r := .said i) (by simp [MA.at, h]) (fun _ t => by show _ = _; rw [M.setH_hd hl]) (fun r' u ne hc => ?_) rfl M.setH_len rfl
  cases r' with
  | hand j =>
    by_cases e : j = i
    · subst e
      obtain ⟨a', sv, h1, h2, h3⟩ := hc
      exact ⟨a', sv, h1, by rw [M.setH_hd hl]; exact h2, by rw [M.setH_hd hl]; exact h3⟩
    · show ∃ a sv, _
      rw [M.setH_ne hl e]
      exact hc
  | said j =>
    have e : j ≠ i := fun e => ne (by rw [e])
    show u = _
    rw [M.setH_ne hl e]
    exact hc
  | _ => exact hc
end
end SS

set_option Elab.async false
set_option linter.all false
set_option maxRecDepth 100000
set_option maxHeartbeats 4000000
namespace SS
open PySem L2

/-- what the classes are -/
structure ZOk (Z : Cs) : Prop where
  clM : Cls Z.K Z.M
  clH : Cls Z.K Z.H
  m_rule : NoAttr Z.K Z.M "rule"
  m_worths : NoAttr Z.K Z.M "worths"
  m_links : NoAttr Z.K Z.M "links"
  m_top : NoAttr Z.K Z.M "top"
  m_count : NoAttr Z.K Z.M "count"
  m_freed : NoAttr Z.K Z.M "freed"
  m_hands : NoAttr Z.K Z.M "hands"
  m_ends : NoAttr Z.K Z.M "ends"
  m_strayed : NoAttr Z.K Z.M "strayed"
  h_program : NoAttr Z.K Z.H "program"
  h_at : NoAttr Z.K Z.H "at"
  h_cell : NoAttr Z.K Z.H "cell"
  h_seen : NoAttr Z.K Z.H "seen"
  h_follow : NoAttr Z.K Z.H "follow"
  h_mark : NoAttr Z.K Z.H "mark"
  h_looked : NoAttr Z.K Z.H "looked"
  h_said : NoAttr Z.K Z.H "said"

abbrev HandO (Z : Cs) (H : Hp) (a : HA) (sv : V) (x : Hd) : Prop := H a.h = some (.ins Z.H a.dx (hf a sv x))

section
variable {Z : Cs} {H : Hp} {A : MA} {m : M} {s : L2.St} {ta tb te : TE} {a : HA} {sv : V} {x : Hd} {i : Nat} {v : V}
/-! ### fields read -/
theorem em_rule (k : ZOk Z) (T : MachAt Z H A m) (e : Ev ta s H (.ref A.p)) : Ev (tFld Z.K ta "rule") s H (.ref A.rule) := ev_fld e T.obj k.clM k.m_rule (mf_rule _ _)
theorem em_worths (k : ZOk Z) (T : MachAt Z H A m) (e : Ev ta s H (.ref A.p)) : Ev (tFld Z.K ta "worths") s H (.ref A.worths) := ev_fld e T.obj k.clM k.m_worths (mf_worths _ _)
theorem em_links (k : ZOk Z) (T : MachAt Z H A m) (e : Ev ta s H (.ref A.p)) : Ev (tFld Z.K ta "links") s H (.ref A.links) := ev_fld e T.obj k.clM k.m_links (mf_links _ _)
theorem em_top (k : ZOk Z) (T : MachAt Z H A m) (e : Ev ta s H (.ref A.p)) : Ev (tFld Z.K ta "top") s H (.int m.top) := ev_fld e T.obj k.clM k.m_top (mf_top _ _)
theorem em_count (k : ZOk Z) (T : MachAt Z H A m) (e : Ev ta s H (.ref A.p)) : Ev (tFld Z.K ta "count") s H (.int m.count) := ev_fld e T.obj k.clM k.m_count (mf_count _ _)
theorem em_freed (k : ZOk Z) (T : MachAt Z H A m) (e : Ev ta s H (.ref A.p)) : Ev (tFld Z.K ta "freed") s H (.ref A.freed) := ev_fld e T.obj k.clM k.m_freed (mf_freed _ _)
theorem em_hands (k : ZOk Z) (T : MachAt Z H A m) (e : Ev ta s H (.ref A.p)) : Ev (tFld Z.K ta "hands") s H (.ref A.handsL) := ev_fld e T.obj k.clM k.m_hands (mf_hands _ _)
theorem em_ends (k : ZOk Z) (T : MachAt Z H A m) (e : Ev ta s H (.ref A.p)) : Ev (tFld Z.K ta "ends") s H (.ref A.ends) := ev_fld e T.obj k.clM k.m_ends (mf_ends _ _)
theorem em_strayed (k : ZOk Z) (T : MachAt Z H A m) (e : Ev ta s H (.ref A.p)) : Ev (tFld Z.K ta "strayed") s H (.bl m.strayed) := ev_fld e T.obj k.clM k.m_strayed (mf_strayed _ _)
theorem eh_program (k : ZOk Z) (O : HandO Z H a sv x) (e : Ev ta s H (.ref a.h)) : Ev (tFld Z.K ta "program") s H (.ref a.prog) := ev_fld e O k.clH k.h_program (hf_program _ _ _)
theorem eh_at (k : ZOk Z) (O : HandO Z H a sv x) (e : Ev ta s H (.ref a.h)) : Ev (tFld Z.K ta "at") s H (.int x.at_) := ev_fld e O k.clH k.h_at (hf_at _ _ _)
theorem eh_cell (k : ZOk Z) (O : HandO Z H a sv x) (e : Ev ta s H (.ref a.h)) : Ev (tFld Z.K ta "cell") s H (.int x.cell) := ev_fld e O k.clH k.h_cell (hf_cell _ _ _)
theorem eh_seen (k : ZOk Z) (O : HandO Z H a sv x) (e : Ev ta s H (.ref a.h)) : Ev (tFld Z.K ta "seen") s H sv := ev_fld e O k.clH k.h_seen (hf_seen _ _ _)
theorem eh_follow (k : ZOk Z) (O : HandO Z H a sv x) (e : Ev ta s H (.ref a.h)) : Ev (tFld Z.K ta "follow") s H (optV x.follow) := ev_fld e O k.clH k.h_follow (hf_follow _ _ _)
theorem eh_mark (k : ZOk Z) (O : HandO Z H a sv x) (e : Ev ta s H (.ref a.h)) : Ev (tFld Z.K ta "mark") s H (.int x.mark) := ev_fld e O k.clH k.h_mark (hf_mark _ _ _)
theorem eh_looked (k : ZOk Z) (O : HandO Z H a sv x) (e : Ev ta s H (.ref a.h)) : Ev (tFld Z.K ta "looked") s H (.bl x.looked) := ev_fld e O k.clH k.h_looked (hf_looked _ _ _)
theorem eh_said (k : ZOk Z) (O : HandO Z H a sv x) (e : Ev ta s H (.ref a.h)) : Ev (tFld Z.K ta "said") s H (.ref a.said) := ev_fld e O k.clH k.h_said (hf_said _ _ _)
/-- self.hands[hand] -/
theorem em_hand (k : ZOk Z) (T : MachAt Z H A m) (h : A.hs[i]? = some a) (e : Ev ta s H (.ref A.p)) (ei : Ev tb s H (.int i)) : Ev (tOp (rIxL Z.K) (tFld Z.K ta "hands") tb) s H (.ref a.h) :=
  ev_ixL (em_hands k T e) ei (SqL.of T.handsLL) (handV h)

/-! ### fields stored: the hand at i is x -/
variable {D : Ends}
theorem hf_len : (hf a sv x).length < 1000 := by show 8 < 1000; decide
theorem mf_len : (mf A m).length < 1000 := by show 9 < 1000; decide
theorem MachAt.len {m : M} (T : MachAt Z H A m) {i : Nat} (h : A.hs[i]? = some a) : i < m.hands.length := by
  rw [← T.hs]
  exact (List.getElem?_eq_some_iff.mp h).1
/-- any store into a hand's attributes but program, said -/
theorem sh_any {f : Str} (k : ZOk Z) (T : MachAt Z H A (m.setH i x)) (h : A.hs[i]? = some a) (O : HandO Z H a sv x) (nf : NoAttr Z.K Z.H f) {x' : Hd} {sv' : V} (e : putF f v (hf a sv x) = hf a sv' x')
    (hs : SeenAt H sv' x'.seen) (hd : x'.said = x.said) (hv : Ev te s H v) (ea : Ev ta s H (.ref a.h))
    (c : ∀ H', MachAt Z H' A (m.setH i x') → Chg A.owns H H' → HandO Z H' a sv' x' → D.nx s H') : sFld Z.K ta te f D s H := by
  refine s_fld hv ea O k.clH nf hf_len ?_
  rw [e]
  have hl : i < m.hands.length := by
    have := T.len h
    rw [M.setH_len] at this
    exact this
  obtain ⟨T', C⟩ := T.setHand (sv := sv') (x := x') h hs (by rw [M.setH_hd hl]; exact hd)
  rw [M.setH_setH] at T'
  exact c _ T' C upd_same
theorem sh_at {n : Nat} (k : ZOk Z) (T : MachAt Z H A (m.setH i x)) (h : A.hs[i]? = some a) (O : HandO Z H a sv x) (hs : SeenAt H sv x.seen) (hv : Ev te s H (.int n)) (ea : Ev ta s H (.ref a.h))
    (c : ∀ H', MachAt Z H' A (m.setH i { x with at_ := n }) → Chg A.owns H H' → HandO Z H' a sv { x with at_ := n } → D.nx s H') : sFld Z.K ta te "at" D s H := sh_any k T h O k.h_at (pf_at a sv x n) hs rfl hv ea c
theorem sh_cell {n : Nat} (k : ZOk Z) (T : MachAt Z H A (m.setH i x)) (h : A.hs[i]? = some a) (O : HandO Z H a sv x) (hs : SeenAt H sv x.seen) (hv : Ev te s H (.int n)) (ea : Ev ta s H (.ref a.h))
    (c : ∀ H', MachAt Z H' A (m.setH i { x with cell := n }) → Chg A.owns H H' → HandO Z H' a sv { x with cell := n } → D.nx s H') : sFld Z.K ta te "cell" D s H := sh_any k T h O k.h_cell (pf_cell a sv x n) hs rfl hv ea c
theorem pf_seenX (o : Option (Nat × Nat)) : putF "seen" v (hf a sv x) = hf a v { x with seen := o } := by rw [pf_seen]; rfl
theorem sh_seen {o : Option (Nat × Nat)} (k : ZOk Z) (T : MachAt Z H A (m.setH i x)) (h : A.hs[i]? = some a) (O : HandO Z H a sv x) (hs : SeenAt H v o) (hv : Ev te s H v) (ea : Ev ta s H (.ref a.h))
    (c : ∀ H', MachAt Z H' A (m.setH i { x with seen := o }) → Chg A.owns H H' → HandO Z H' a v { x with seen := o } → D.nx s H') : sFld Z.K ta te "seen" D s H := sh_any k T h O k.h_seen (pf_seenX o) hs rfl hv ea c
theorem sh_follow {o : Option Nat} (k : ZOk Z) (T : MachAt Z H A (m.setH i x)) (h : A.hs[i]? = some a) (O : HandO Z H a sv x) (hs : SeenAt H sv x.seen) (hv : Ev te s H (optV o)) (ea : Ev ta s H (.ref a.h))
    (c : ∀ H', MachAt Z H' A (m.setH i { x with follow := o }) → Chg A.owns H H' → HandO Z H' a sv { x with follow := o } → D.nx s H') : sFld Z.K ta te "follow" D s H := sh_any k T h O k.h_follow (pf_follow a sv x o) hs rfl hv ea c
theorem sh_mark {n : Nat} (k : ZOk Z) (T : MachAt Z H A (m.setH i x)) (h : A.hs[i]? = some a) (O : HandO Z H a sv x) (hs : SeenAt H sv x.seen) (hv : Ev te s H (.int n)) (ea : Ev ta s H (.ref a.h))
    (c : ∀ H', MachAt Z H' A (m.setH i { x with mark := n }) → Chg A.owns H H' → HandO Z H' a sv { x with mark := n } → D.nx s H') : sFld Z.K ta te "mark" D s H := sh_any k T h O k.h_mark (pf_mark a sv x n) hs rfl hv ea c
theorem sh_looked {b : Bool} (k : ZOk Z) (T : MachAt Z H A (m.setH i x)) (h : A.hs[i]? = some a) (O : HandO Z H a sv x) (hs : SeenAt H sv x.seen) (hv : Ev te s H (.bl b)) (ea : Ev ta s H (.ref a.h))
    (c : ∀ H', MachAt Z H' A (m.setH i { x with looked := b }) → Chg A.owns H H' → HandO Z H' a sv { x with looked := b } → D.nx s H') : sFld Z.K ta te "looked" D s H := sh_any k T h O k.h_looked (pf_looked a sv x b) hs rfl hv ea c
/-- one.said.append(answer) -/
theorem sh_said {w : Ans} (k : ZOk Z) (T : MachAt Z H A (m.setH i x)) (h : A.hs[i]? = some a) (O : HandO Z H a sv x) (hs : SeenAt H sv x.seen) (hz : x.said.length < 1000) (hv : Ev te s H (ansV w)) (ea : Ev ta s H (.ref a.h))
    (c : ∀ H', MachAt Z H' A (m.setH i { x with said := x.said ++ [w] }) → Chg A.owns H H' → HandO Z H' a sv { x with said := x.said ++ [w] } → D.nx s H') :
    tDrop (tBM Z.K "list" rAppend (tFld Z.K ta "said") (tCons te tNil)) D s H := by
  have hl : i < m.hands.length := by
    have := T.len h
    rw [M.setH_len] at this
    exact this
  have L := T.saidL h
  rw [M.setH_hd hl] at L
  refine s_app (eh_said k O ea) L hv (by rw [List.length_map]; exact Nat.lt_of_lt_of_le hz (by decide)) ?_
  obtain ⟨T', C⟩ := T.setSaid h (x.said ++ [w])
  rw [M.setH_hd hl, M.setH_setH] at T'
  rw [List.map_append] at T' C
  obtain ⟨sv2, O2, _⟩ := T'.handO h
  rw [M.setH_hd hl] at O2
  have e : sv2 = sv := by
    have hne : a.h ≠ a.said := ne_of O L (by intro z; cases z)
    have O' := C.keep
    have O3 : upd H a.said (.lst (x.said.map ansV ++ [ansV w])) a.h = some (.ins Z.H a.dx (hf a sv x)) := by rw [upd_ne hne]; exact O
    have O4 := O2.symm.trans O3
    have l1 := congrArg (fun o : Option HO => match o with | some (.ins _ _ fs) => fs.lookup ("seen" : Str) | _ => none) O4
    have l2 : some sv2 = some sv := l1
    exact Option.some.inj l2
  rw [e] at O2
  exact c _ T' C O2
/-! ### the machine's own -/
theorem MachAt.hO {m : M} (T : MachAt Z H A (m.setH i x)) (h : A.hs[i]? = some a) : ∃ sv, HandO Z H a sv x ∧ SeenAt H sv x.seen := by
  have hl : i < m.hands.length := by
    have := T.len h
    rw [M.setH_len] at this
    exact this
  have := T.handO h
  rw [M.setH_hd hl] at this
  exact this
theorem sm_any {f : Str} (k : ZOk Z) (T : MachAt Z H A m) (nf : NoAttr Z.K Z.M f) {t c : Nat} {b : Bool} (e : putF f v (mf A m) = mf A { m with top := t, count := c, strayed := b }) (hv : Ev te s H v) (ea : Ev ta s H (.ref A.p))
    (q : ∀ H', MachAt Z H' A { m with top := t, count := c, strayed := b } → Chg A.owns H H' → (∀ (j : Nat) (b : HA) (sv : V) (x : Hd), A.hs[j]? = some b → HandO Z H b sv x → HandO Z H' b sv x) → D.nx s H') : sFld Z.K ta te f D s H := by
  refine s_fld hv ea T.obj k.clM nf mf_len ?_
  rw [e]
  obtain ⟨T', C⟩ := T.setM t c b
  refine q _ T' C fun i a sv x h O => ?_
  have hne : a.h ≠ A.p := fun z => by
    have := T.sep (.hand i) .m a.h (by simp [MA.at, h]) (by rw [z]; rfl)
    cases this
  show upd _ _ _ _ = _
  rw [upd_ne hne]
  exact O
theorem sm_top {t : Nat} (k : ZOk Z) (T : MachAt Z H A m) (hv : Ev te s H (.int t)) (ea : Ev ta s H (.ref A.p))
    (q : ∀ H', MachAt Z H' A { m with top := t } → Chg A.owns H H' → (∀ (j : Nat) (b : HA) (sv : V) (x : Hd), A.hs[j]? = some b → HandO Z H b sv x → HandO Z H' b sv x) → D.nx s H') : sFld Z.K ta te "top" D s H :=
  sm_any (t := t) (c := m.count) (b := m.strayed) k T k.m_top (pf_top A m t) hv ea q
theorem sm_count {t : Nat} (k : ZOk Z) (T : MachAt Z H A m) (hv : Ev te s H (.int t)) (ea : Ev ta s H (.ref A.p))
    (q : ∀ H', MachAt Z H' A { m with count := t } → Chg A.owns H H' → (∀ (j : Nat) (b : HA) (sv : V) (x : Hd), A.hs[j]? = some b → HandO Z H b sv x → HandO Z H' b sv x) → D.nx s H') : sFld Z.K ta te "count" D s H :=
  sm_any (t := m.top) (c := t) (b := m.strayed) k T k.m_count (pf_count A m t) hv ea q
theorem sm_strayed {t : Bool} (k : ZOk Z) (T : MachAt Z H A m) (hv : Ev te s H (.bl t)) (ea : Ev ta s H (.ref A.p))
    (q : ∀ H', MachAt Z H' A { m with strayed := t } → Chg A.owns H H' → (∀ (j : Nat) (b : HA) (sv : V) (x : Hd), A.hs[j]? = some b → HandO Z H b sv x → HandO Z H' b sv x) → D.nx s H') : sFld Z.K ta te "strayed" D s H :=
  sm_any (t := m.top) (c := m.count) (b := t) k T k.m_strayed (pf_strayed A m t) hv ea q
end
end SS

set_option Elab.async false
set_option linter.all false
set_option maxRecDepth 100000
set_option maxHeartbeats 4000000
namespace SS
open PySem L2

/-! ### what a step tells -/
def tellVs : Tell → List V
  | .rests => [.str "rests"]
  | .takes c => [.str "takes", natV c]
  | .reads t => [.str "reads", natV t]
  | .ends a => [.str "ends", ansV a]
  | .links t => [.str "links", natV t]
  | .marks c => [.str "marks", natV c]
  | .looks b => [.str "looks", .bl b]
  | .follows n => [.str "follows", natV n]
  | .exchanges n => [.str "exchanges", natV n]
  | .misses => [.str "misses"]
def TellAt (H : Hp) (v : V) (t : Tell) : Prop := ∃ q, v = .ref q ∧ H q = some (.tup (tellVs t))

/-! ### promises -/
def ProgAt (H : Hp) (v : V) (ds : List Deed) : Prop := ∃ q us, v = .ref q ∧ H q = some (.lst us) ∧ All2 (DeedAt H) us ds
def ProgsAt (K : PySem.W.Frag) (H : Hp) (l : Addr) (ps : List (List Deed)) : Prop := ∃ us, SqL K H l us ∧ All2 (ProgAt H) us ps
def sp_need_values (Z : Cs) : Sp := fun vs H Q _ => ∃ (a : Addr) (ns : List Int), vs = [.ref a] ∧ SqL Z.K H a (ns.map V.int) ∧ ns.length ≤ 6 ∧ (∀ v ∈ ns, okVal v) ∧ Q .non H
def sp_is_deed (Z : Cs) : Sp := fun vs H Q _ => ∃ (v : V) (d : Deed), vs = [v] ∧ DeedAt H v d ∧ okDeed d ∧ Q (.bl true) H
def sp_need_deeds (Z : Cs) : Sp := fun vs H Q _ => ∃ (v : V) (h : Nat) (ds : List Deed), vs = [v, .int h] ∧ ProgAt H v ds ∧ ds.length ≤ 1000 ∧ (∀ d ∈ ds, okDeed d) ∧ Q .non H
def sp_need_programs (Z : Cs) : Sp := fun vs H Q _ => ∃ (l : Addr) (ps : List (List Deed)), vs = [.ref l] ∧ ProgsAt Z.K H l ps ∧ (1 ≤ ps.length ∧ ps.length ≤ 3) ∧ (∀ p ∈ ps, p.length ≤ 4) ∧ (∀ p ∈ ps, ∀ d ∈ p, okDeed d) ∧ Q .non H
def sp_need_rule (Z : Cs) : Sp := fun vs H Q _ => ∃ (a : Addr) (r : Rule) (many : Nat), vs = [.ref a, .int many] ∧ RuleAt H a r ∧ okRule many r ∧ ∀ H', Same H H' → Q .non H'
def sp_H_init (Z : Cs) : Sp := fun vs H Q _ => ∃ (p dx l : Addr) (us : List V) (ds : List Deed), vs = [.ref p, .ref l] ∧ H p = some (.ins Z.H dx []) ∧ H l = some (.lst us) ∧ All2 (DeedAt H) us ds ∧
  ∀ (a : HA) H', a.h = p → H a.prog = none → H a.said = none → a.prog ≠ a.said → HandO Z H' a .non {} → H' a.prog = some (.lst us) → H' a.said = some (.lst []) → (∀ b o, H b = some o → b ≠ p → H' b = some o) → Q .non H'
def sp_M_init (Z : Cs) : Sp := fun vs H Q _ => ∃ (p dx lv lp lr : Addr) (values : List Int) (ps : List (List Deed)) (r : Rule), vs = [.ref p, .ref lv, .ref lp, .ref lr] ∧ H p = some (.ins Z.M dx []) ∧
  SqL Z.K H lv (values.map V.int) ∧ ProgsAt Z.K H lp ps ∧ RuleAt H lr r ∧ okIn values ps r ∧
  ∀ (A : MA) H', A.p = p → (∀ a, A.owns a → a ≠ p → H a = none) → MachAt Z H' A (M.begin_ values ps r) → (∀ b o, H b = some o → b ≠ p → H' b = some o) → Q .non H'

def sp_M_need_hand (Z : Cs) : Sp := fun vs H Q _ => ∃ (A : MA) (m : M) (h : Nat) (a : HA), vs = [.ref A.p, .int h] ∧ MachAt Z H A m ∧ A.hs[h]? = some a ∧ Q (.ref a.h) H
def sp_M_rests (Z : Cs) : Sp := fun vs H Q _ => ∃ (A : MA) (m : M) (h : Nat) (a : HA), vs = [.ref A.p, .int h] ∧ MachAt Z H A m ∧ A.hs[h]? = some a ∧ Q (.bl (m.rests h)) H
def sp_M_marks (Z : Cs) : Sp := fun vs H Q _ => ∃ (A : MA) (m : M), vs = [.ref A.p] ∧ MachAt Z H A m ∧ m.hands.length ≤ 1000 ∧ ∀ l H', H l = none → Same H H' → H' l = some (.lst (m.marked.map natV)) → Q (.ref l) H'
def sp_M_taken (Z : Cs) : Sp := fun vs H Q _ => ∃ (A : MA) (m : M) (v : Int), vs = [.ref A.p, .int v] ∧ MachAt Z H A m ∧ m.hands.length ≤ 1000 ∧ m.worths.length < 1000 ∧ m.links.length < 1000 ∧ m.freed.length ≤ 1000 ∧ (∀ c ∈ m.freed, 1 ≤ c ∧ c ≤ m.worths.length) ∧
  ∀ H', MachAt Z H' A (m.taken v).2 → Chg A.owns H H' → Q (.int (m.taken v).1) H'
def sp_M_forget (Z : Cs) : Sp := fun vs H Q _ => ∃ (A : MA) (m : M) (h : Nat) (a : HA), vs = [.ref A.p, .int h] ∧ MachAt Z H A m ∧ A.hs[h]? = some a ∧
  ∀ H', MachAt Z H' A (m.setH h (m.hd h).forgot) → Chg A.owns H H' → Q .non H'
def sp_M_ended (Z : Cs) : Sp := fun vs H Q _ => ∃ (A : MA) (m : M) (h : Nat) (a : HA) (w : Ans), vs = [.ref A.p, .int h, ansV w] ∧ MachAt Z H A m ∧ A.hs[h]? = some a ∧ (m.hd h).said.length < 1000 ∧
  ∀ H' v, MachAt Z H' A (m.endedH h w) → Chg A.owns H H' → TellAt H' v (.ends w) → Q v H'
def sp_M_read (Z : Cs) : Sp := fun vs H Q _ => ∃ (A : MA) (m : M) (h : Nat) (a : HA) (d : Deed), vs = [.ref A.p, .int h] ∧ MachAt Z H A m ∧ A.hs[h]? = some a ∧ (m.prog h)[(m.hd h).at_]? = some d ∧ (m.hd h).said.length < 1000 ∧ m.ends.length < 1000 ∧
  ∀ H' v, MachAt Z H' A (m.read h d).2 → Chg A.owns H H' → TellAt H' v (m.read h d).1 → Q v H'
def sp_M_exchange (Z : Cs) : Sp := fun vs H Q _ => ∃ (A : MA) (m : M) (h c : Nat) (a : HA), vs = [.ref A.p, .int h, .int c] ∧ MachAt Z H A m ∧ A.hs[h]? = some a ∧ m.ends.length < 1000 ∧ okCount m ∧
  ∀ H', MachAt Z H' A (m.exch h c).2 → Chg A.owns H H' → Q (.bl (m.exch h c).1) H'
def sp_M_push (Z : Cs) : Sp := fun vs H Q _ => ∃ (A : MA) (m : M) (h t k : Nat) (a : HA), vs = [.ref A.p, .int h] ∧ MachAt Z H A m ∧ A.hs[h]? = some a ∧ (m.hd h).seen = some (t, k) ∧ (1 ≤ (m.hd h).cell ∧ (m.hd h).cell ≤ m.links.length) ∧
  (m.hd h).said.length < 1000 ∧ m.ends.length < 1000 ∧ okCount m ∧ ∀ H' v, MachAt Z H' A (m.push h t).2 → Chg A.owns H H' → TellAt H' v (m.push h t).1 → Q v H'
def sp_M_guard (Z : Cs) : Sp := fun vs H Q _ => ∃ (A : MA) (m : M) (h c : Nat) (a : HA), vs = [.ref A.p, .int h, .int c] ∧ MachAt Z H A m ∧ A.hs[h]? = some a ∧
  ∀ H' v, MachAt Z H' A (m.guard h c).2 → Chg A.owns H H' → TellAt H' v (m.guard h c).1 → Q v H'
def sp_M_pop (Z : Cs) : Sp := fun vs H Q _ => ∃ (A : MA) (m : M) (h t k : Nat) (a : HA), vs = [.ref A.p, .int h] ∧ MachAt Z H A m ∧ A.hs[h]? = some a ∧ (m.hd h).seen = some (t, k) ∧ (1 ≤ t ∧ t ≤ m.links.length) ∧ (m.hd h).cell ≤ m.worths.length ∧
  (m.hd h).said.length < 1000 ∧ m.ends.length < 1000 ∧ m.freed.length < 1000 ∧ okCount m ∧ ∀ H' v, MachAt Z H' A (m.pop h t).2 → Chg A.owns H H' → TellAt H' v (m.pop h t).1 → Q v H'
def sp_M_turn (Z : Cs) : Sp := fun vs H Q _ => ∃ (A : MA) (m : M) (h : Nat), vs = [.ref A.p, .int h] ∧ MachAt Z H A m ∧ Wf m ∧ h < m.hands.length ∧
  ∀ H' v, MachAt Z H' A (m.turn h).2 → Chg A.owns H H' → TellAt H' v (m.turn h).1 → (m.rests h = true → Same H H') → Q v H'

/-! ### what is told of the machine as it stands -/
def sp_M_is_done (Z : Cs) : Sp := fun vs H Q _ => ∃ (A : MA) (m : M), vs = [.ref A.p] ∧ MachAt Z H A m ∧ m.hands.length ≤ 1000 ∧ ∀ H', Same H H' → Q (.bl m.isDone) H'
def sp_M_is_stale (Z : Cs) : Sp := fun vs H Q _ => ∃ (A : MA) (m : M), vs = [.ref A.p] ∧ MachAt Z H A m ∧ Q (.bl m.strayed) H
def sp_M_answers (Z : Cs) : Sp := fun vs H Q _ => ∃ (A : MA) (m : M) (h : Nat) (a : HA), vs = [.ref A.p, .int h] ∧ MachAt Z H A m ∧ A.hs[h]? = some a ∧ ∀ l, H l = none → Q (.ref l) (upd H l (.lst ((m.hd h).said.map ansV)))
def sp_M_marked (Z : Cs) : Sp := fun vs H Q _ => ∃ (A : MA) (m : M) (h : Nat) (a : HA), vs = [.ref A.p, .int h] ∧ MachAt Z H A m ∧ A.hs[h]? = some a ∧ Q (.int (m.hd h).mark) H
def sp_M_order (Z : Cs) : Sp := fun vs H Q _ => ∃ (A : MA) (m : M), vs = [.ref A.p] ∧ MachAt Z H A m ∧ ∀ l us, H l = none → All2 (PairAt H) us m.ends → Q (.ref l) (upd H l (.lst us))
def sp_M_free (Z : Cs) : Sp := fun vs H Q _ => ∃ (A : MA) (m : M), vs = [.ref A.p] ∧ MachAt Z H A m ∧ ∀ l, H l = none → Q (.ref l) (upd H l (.lst (m.freed.map natV)))
def sp_M_top_now (Z : Cs) : Sp := fun vs H Q _ => ∃ (A : MA) (m : M), vs = [.ref A.p] ∧ MachAt Z H A m ∧ ∀ l, H l = none → Q (.ref l) (upd H l (.tup [natV m.top, natV m.count]))
def sp_M_nexts (Z : Cs) : Sp := fun vs H Q _ => ∃ (A : MA) (m : M), vs = [.ref A.p] ∧ MachAt Z H A m ∧ ∀ l, H l = none → Q (.ref l) (upd H l (.lst (m.links.map natV)))
def sp_M_pile (Z : Cs) : Sp := fun vs H Q _ => ∃ (A : MA) (m : M), vs = [.ref A.p] ∧ MachAt Z H A m ∧ PileOk m ∧ ∀ l H', H l = none → Same H H' → H' l = some (.lst (m.pile.map natV)) → Q (.ref l) H'
def sp_M_pile_values (Z : Cs) : Sp := fun vs H Q _ => ∃ (A : MA) (m : M), vs = [.ref A.p] ∧ MachAt Z H A m ∧ PileOk m ∧ ∀ l H', H l = none → Same H H' → H' l = some (.lst (m.pileValues.map V.int)) → Q (.ref l) H'

/-! ### readings (printed) -/
/-- need_values: 0 values, 1 at -/
def t_need_values (Z : Cs) : TS :=
  tSeq (tIfS (tTest (tOp rGtI (tCB (rLen1 Z.K) (tCons (tVar 0) tNil)) (tC (.int 6)))) ((tNever)) (tNext))
    ((tFor (iRng1 (tCons (tCB (rLen1 Z.K) (tCons (tVar 0) tNil)) tNil)) (gName 1) ((tIfS (tNot (tTest (tChain rLeI rLeI (tC (.int 0)) (tOp (rIxL Z.K) (tVar 0) (tVar 1)) (tC (.int 99))))) ((tNever)) (tNext)))))
/-- is_deed: 0 deed -/
def t_is_deed (Z : Cs) : TS :=
  tSeq (tIfS (tTest (tOp rEq (tCB (rLen1 Z.K) (tCons (tVar 0) tNil)) (tC (.int 0)))) ((tRet (tC (.bl false)))) (tNext))
    (tSeq (tIfS (tTest (tOp rEq (tOp (rIxT Z.K) (tVar 0) (tC (.int 0))) (tC (.str "pop")))) ((tRet (tOp rEq (tCB (rLen1 Z.K) (tCons (tVar 0) tNil)) (tC (.int 1))))) (tNext))
    ((tRet (tAndV (tOp rEq (tOp (rIxT Z.K) (tVar 0) (tC (.int 0))) (tC (.str "push"))) (tAndV (tOp rEq (tCB (rLen1 Z.K) (tCons (tVar 0) tNil)) (tC (.int 2))) (tChain rLeI rLeI (tC (.int 0)) (tOp (rIxT Z.K) (tVar 0) (tC (.int 1))) (tC (.int 99))))))))
/-- need_deeds: 0 deeds, 1 hand, 2 number -/
def t_need_deeds (Z : Cs) : TS :=
  (tFor (iRng1 (tCons (tCB (rLen1 Z.K) (tCons (tVar 0) tNil)) tNil)) (gName 2) ((tIfS (tNot (tB (tCall (sp_is_deed Z) [] E0 (tCons (tOp (rIxL Z.K) (tVar 0) (tVar 2)) tNil)))) ((tNever)) (tNext))))
/-- need_programs: 0 programs, 1 hand -/
def t_need_programs (Z : Cs) : TS :=
  tSeq (tIfS (tNot (tTest (tChain rLeI rLeI (tC (.int 1)) (tCB (rLen1 Z.K) (tCons (tVar 0) tNil)) (tC (.int 3))))) ((tNever)) (tNext))
    ((tFor (iRng1 (tCons (tCB (rLen1 Z.K) (tCons (tVar 0) tNil)) tNil)) (gName 1) (tSeq (tIfS (tTest (tOp rGtI (tCB (rLen1 Z.K) (tCons (tOp (rIxL Z.K) (tVar 0) (tVar 1)) tNil)) (tC (.int 4)))) ((tNever)) (tNext))
    ((tDrop (tCall (sp_need_deeds Z) [] E0 (tCons (tOp (rIxL Z.K) (tVar 0) (tVar 1)) (tCons (tVar 1) tNil))))))))
/-- need_rule: 0 rule, 1 many, 2 at -/
def t_need_rule (Z : Cs) : TS :=
  tSeq (tIfS (tTest (tOp (rEqD Z.K) (tVar 0) (tTup (tCons (tC (.str "keeps")) tNil)))) ((tRetN)) (tNext))
    (tSeq (tIfS ((tOr (tTest (tOp rNe (tCB (rLen1 Z.K) (tCons (tVar 0) tNil)) (tC (.int 2)))) (tTest (tOp (rIn Z.K true) (tOp (rIxT Z.K) (tVar 0) (tC (.int 0))) (tTup (tCons (tC (.str "counts")) (tCons (tC (.str "marks")) tNil))))))) ((tNever)) (tNext))
    ((tIfS (tTest (tOp rEq (tOp (rIxT Z.K) (tVar 0) (tC (.int 0))) (tC (.str "counts")))) ((tIfS (tNot (tTest (tChain rLeI rLeI (tC (.int 1)) (tOp (rIxT Z.K) (tVar 0) (tC (.int 1))) (tC (.int 15))))) ((tNever)) (tNext))) ((tFor (iRng1 (tCons (tCB (rLen1 Z.K) (tCons (tOp (rIxT Z.K) (tVar 0) (tC (.int 1))) tNil)) tNil)) (gName 2) ((tIfS ((tOr (tNot (tTest (tChain rLeI rLtI (tC (.int 0)) (tOp (rIxT Z.K) (tOp (rIxT Z.K) (tVar 0) (tC (.int 1))) (tVar 2)) (tVar 1)))) ((tAnd (tTest (tOp rGtI (tVar 2) (tC (.int 0)))) (tTest (tOp rLeI (tOp (rIxT Z.K) (tOp (rIxT Z.K) (tVar 0) (tC (.int 1))) (tVar 2)) (tOp (rIxT Z.K) (tOp (rIxT Z.K) (tVar 0) (tC (.int 1))) (tOp rSubI (tVar 2) (tC (.int 1)))))))))) ((tNever)) (tNext))))))))
/-- Hand.__init__: 0 self, 1 program -/
def t_H_init (Z : Cs) : TS :=
  tSeq (sFld Z.K (tVar 0) (tCB (rListOf Z.K) (tCons (tVar 1) tNil)) "program")
    (tSeq (sFld Z.K (tVar 0) (tC (.int 0)) "at")
    (tSeq (sFld Z.K (tVar 0) (tC (.int 0)) "cell")
    (tSeq (sFld Z.K (tVar 0) (tC .non) "seen")
    (tSeq (sFld Z.K (tVar 0) (tC .non) "follow")
    (tSeq (sFld Z.K (tVar 0) (tC (.int 0)) "mark")
    (tSeq (sFld Z.K (tVar 0) (tC (.bl false)) "looked")
    ((sFld Z.K (tVar 0) (tLst tNil) "said"))))))))
/-- Machine.__init__: 0 self, 1 values, 2 programs, 3 rule, 4 program -/
def t_M_init (Z : Cs) : TS :=
  tSeq (tDrop (tCall (sp_need_values Z) [] E0 (tCons (tVar 1) tNil)))
    (tSeq (tDrop (tCall (sp_need_programs Z) [] E0 (tCons (tVar 2) tNil)))
    (tSeq (tDrop (tCall (sp_need_rule Z) [] E0 (tCons (tVar 3) (tCons (tCB (rLen1 Z.K) (tCons (tVar 2) tNil)) tNil))))
    (tSeq (sFld Z.K (tVar 0) (tVar 3) "rule")
    (tSeq (sFld Z.K (tVar 0) (tCB (rListOf Z.K) (tCons (tVar 1) tNil)) "worths")
    (tSeq (sFld Z.K (tVar 0) (tLstRg (tRg1 (tCB (rLen1 Z.K) (tCons (tVar 1) tNil)))) "links")
    (tSeq (sFld Z.K (tVar 0) (tCB (rLen1 Z.K) (tCons (tVar 1) tNil)) "top")
    (tSeq (sFld Z.K (tVar 0) (tC (.int 0)) "count")
    (tSeq (sFld Z.K (tVar 0) (tLst tNil) "freed")
    (tSeq (sFld Z.K (tVar 0) (tLc (iList Z.K (tVar 2)) (gName 4) tYes (tMake Z.H (sp_H_init Z) [] E0 (tCons (tVar 4) tNil)) [4]) "hands")
    (tSeq (sFld Z.K (tVar 0) (tLst tNil) "ends")
    ((sFld Z.K (tVar 0) (tC (.bl false)) "strayed"))))))))))))
/-- Machine.need_hand: 0 self, 1 hand -/
def t_M_need_hand (Z : Cs) : TS :=
  tSeq (tIfS (tNot (tTest (tChain rLeI rLtI (tC (.int 0)) (tVar 1) (tCB (rLen1 Z.K) (tCons (tFld Z.K (tVar 0) "hands") tNil))))) ((tNever)) (tNext))
    ((tRet (tOp (rIxL Z.K) (tFld Z.K (tVar 0) "hands") (tVar 1))))
/-- Machine.rests: 0 self, 1 hand -/
def t_M_rests (Z : Cs) : TS :=
  (tRet (tOp rEq (tFld Z.K (tOp (rIxL Z.K) (tFld Z.K (tVar 0) "hands") (tVar 1)) "at") (tCB (rLen1 Z.K) (tCons (tFld Z.K (tOp (rIxL Z.K) (tFld Z.K (tVar 0) "hands") (tVar 1)) "program") tNil))))
/-- Machine.is_done: 0 self, 1 hand -/
def t_M_is_done (Z : Cs) : TS :=
  (tRet (tOp (rEqD Z.K) (tLc (iRng1 (tCons (tCB (rLen1 Z.K) (tCons (tFld Z.K (tVar 0) "hands") tNil)) tNil)) (gName 1) (tNot (tB (tMeth Z.M "rests" (sp_M_rests Z) [] E0 (tVar 0) (tCons (tVar 1) tNil)))) (tVar 1) [1]) (tLst tNil)))
/-- Machine.is_stale: 0 self -/
def t_M_is_stale (Z : Cs) : TS :=
  (tRet (tFld Z.K (tVar 0) "strayed"))
/-- Machine.answers: 0 self, 1 hand -/
def t_M_answers (Z : Cs) : TS :=
  (tRet (tCB (rListOf Z.K) (tCons (tFld Z.K (tMeth Z.M "need_hand" (sp_M_need_hand Z) [] E0 (tVar 0) (tCons (tVar 1) tNil)) "said") tNil)))
/-- Machine.marked: 0 self, 1 hand -/
def t_M_marked (Z : Cs) : TS :=
  (tRet (tFld Z.K (tMeth Z.M "need_hand" (sp_M_need_hand Z) [] E0 (tVar 0) (tCons (tVar 1) tNil)) "mark"))
/-- Machine.order: 0 self -/
def t_M_order (Z : Cs) : TS :=
  (tRet (tCB (rListOf Z.K) (tCons (tFld Z.K (tVar 0) "ends") tNil)))
/-- Machine.free: 0 self -/
def t_M_free (Z : Cs) : TS :=
  (tRet (tCB (rListOf Z.K) (tCons (tFld Z.K (tVar 0) "freed") tNil)))
/-- Machine.top_now: 0 self -/
def t_M_top_now (Z : Cs) : TS :=
  (tRet (tTup (tCons (tFld Z.K (tVar 0) "top") (tCons (tFld Z.K (tVar 0) "count") tNil))))
/-- Machine.nexts: 0 self -/
def t_M_nexts (Z : Cs) : TS :=
  (tRet (tCB (rListOf Z.K) (tCons (tFld Z.K (tVar 0) "links") tNil)))
/-- Machine.pile: 0 self, 1 found, 2 cell -/
def t_M_pile (Z : Cs) : TS :=
  tSeq (tAsg (tLst tNil) (gName 1))
    (tSeq (tAsg (tFld Z.K (tVar 0) "top") (gName 2))
    (tSeq (tWhile ((tAnd (tTest (tOp rNe (tVar 2) (tC (.int 0)))) (tTest (tOp (rIn Z.K true) (tVar 2) (tVar 1))))) (tSeq (tDrop (tBM Z.K "list" rAppend (tVar 1) (tCons (tVar 2) tNil)))
    ((tAsg (tOp (rIxL Z.K) (tFld Z.K (tVar 0) "links") (tOp rSubI (tVar 2) (tC (.int 1)))) (gName 2)))))
    ((tRet (tVar 1)))))
/-- Machine.pile_values: 0 self, 1 cell -/
def t_M_pile_values (Z : Cs) : TS :=
  (tRet (tLc (iList Z.K (tMeth Z.M "pile" (sp_M_pile Z) [] E0 (tVar 0) tNil)) (gName 1) tYes (tOp (rIxL Z.K) (tFld Z.K (tVar 0) "worths") (tOp rSubI (tVar 1) (tC (.int 1)))) [1]))
/-- Machine.marks: 0 self, 1 hand -/
def t_M_marks (Z : Cs) : TS :=
  (tRet (tLc (iList Z.K (tFld Z.K (tVar 0) "hands")) (gName 1) (tTest (tOp rNe (tFld Z.K (tVar 1) "mark") (tC (.int 0)))) (tFld Z.K (tVar 1) "mark") [1]))
/-- Machine.taken: 0 self, 1 value, 2 cell -/
def t_M_taken (Z : Cs) : TS :=
  tSeq (tFor (iList Z.K (tCB (rListOf Z.K) (tCons (tFld Z.K (tVar 0) "freed") tNil))) (gName 2) ((tIfS ((tAnd (tTest (tOp rNe (tOp (rIxT Z.K) (tFld Z.K (tVar 0) "rule") (tC (.int 0))) (tC (.str "keeps")))) (tTest (tOp (rIn Z.K true) (tVar 2) (tMeth Z.M "marks" (sp_M_marks Z) [] E0 (tVar 0) tNil))))) (tSeq (tDrop (tBM Z.K "list" rRemI (tFld Z.K (tVar 0) "freed") (tCons (tVar 2) tNil)))
    (tSeq (tAsg (tVar 1) (gSub (tFld Z.K (tVar 0) "worths") (tOp rSubI (tVar 2) (tC (.int 1))) rSetL))
    ((tRet (tVar 2))))) (tNext))))
    (tSeq (tDrop (tBM Z.K "list" rAppend (tFld Z.K (tVar 0) "worths") (tCons (tVar 1) tNil)))
    (tSeq (tDrop (tBM Z.K "list" rAppend (tFld Z.K (tVar 0) "links") (tCons (tC (.int 0)) tNil)))
    ((tRet (tCB (rLen1 Z.K) (tCons (tFld Z.K (tVar 0) "worths") tNil))))))
/-- Machine.turn: 0 self, 1 hand, 2 one, 3 deed -/
def t_M_turn (Z : Cs) : TS :=
  tSeq (tAsg (tMeth Z.M "need_hand" (sp_M_need_hand Z) [] E0 (tVar 0) (tCons (tVar 1) tNil)) (gName 2))
    (tSeq (tIfS (tB (tMeth Z.M "rests" (sp_M_rests Z) [] E0 (tVar 0) (tCons (tVar 1) tNil))) ((tRet (tTup (tCons (tC (.str "rests")) tNil)))) (tNext))
    (tSeq (tAsg (tOp (rIxL Z.K) (tFld Z.K (tVar 2) "program") (tFld Z.K (tVar 2) "at")) (gName 3))
    (tSeq (tIfS ((tAnd (tTest (tOp rEq (tOp (rIxT Z.K) (tVar 3) (tC (.int 0))) (tC (.str "push")))) (tTest (tOp rEq (tFld Z.K (tVar 2) "cell") (tC (.int 0)))))) (tSeq (sFld Z.K (tVar 2) (tMeth Z.M "taken" (sp_M_taken Z) [] E0 (tVar 0) (tCons (tOp (rIxT Z.K) (tVar 3) (tC (.int 1))) tNil)) "cell")
    ((tRet (tTup (tCons (tC (.str "takes")) (tCons (tFld Z.K (tVar 2) "cell") tNil)))))) (tNext))
    (tSeq (tIfS (tTest (tOp rIsN (tFld Z.K (tVar 2) "seen") (tC .non))) ((tRet (tMeth Z.M "read" (sp_M_read Z) [] E0 (tVar 0) (tCons (tVar 1) tNil)))) (tNext))
    (tSeq (tIfS (tTest (tOp rEq (tOp (rIxT Z.K) (tVar 3) (tC (.int 0))) (tC (.str "push")))) ((tRet (tMeth Z.M "push" (sp_M_push Z) [] E0 (tVar 0) (tCons (tVar 1) tNil)))) (tNext))
    ((tRet (tMeth Z.M "pop" (sp_M_pop Z) [] E0 (tVar 0) (tCons (tVar 1) tNil)))))))))
/-- Machine.read: 0 self, 1 hand, 2 one -/
def t_M_read (Z : Cs) : TS :=
  tSeq (tAsg (tOp (rIxL Z.K) (tFld Z.K (tVar 0) "hands") (tVar 1)) (gName 2))
    (tSeq (tIfS ((tAnd (tTest (tOp rEq (tFld Z.K (tVar 0) "top") (tC (.int 0)))) (tTest (tOp rEq (tOp (rIxT Z.K) (tOp (rIxL Z.K) (tFld Z.K (tVar 2) "program") (tFld Z.K (tVar 2) "at")) (tC (.int 0))) (tC (.str "pop")))))) (tSeq (tDrop (tBM Z.K "list" rAppend (tFld Z.K (tVar 0) "ends") (tCons (tTup (tCons (tVar 1) (tCons (tFld Z.K (tVar 2) "at") tNil))) tNil)))
    ((tRet (tMeth Z.M "ended" (sp_M_ended Z) [] E0 (tVar 0) (tCons (tVar 1) (tCons (tC .non) tNil)))))) (tNext))
    (tSeq (sFld Z.K (tVar 2) (tTup (tCons (tFld Z.K (tVar 0) "top") (tCons (tFld Z.K (tVar 0) "count") tNil))) "seen")
    ((tRet (tTup (tCons (tC (.str "reads")) (tCons (tFld Z.K (tVar 0) "top") tNil)))))))
/-- Machine.ended: 0 self, 1 hand, 2 answer, 3 one -/
def t_M_ended (Z : Cs) : TS :=
  tSeq (tAsg (tOp (rIxL Z.K) (tFld Z.K (tVar 0) "hands") (tVar 1)) (gName 3))
    (tSeq (tDrop (tBM Z.K "list" rAppend (tFld Z.K (tVar 3) "said") (tCons (tVar 2) tNil)))
    (tSeq (sFld Z.K (tVar 3) (tOp rAddI (tFld Z.K (tVar 3) "at") (tC (.int 1))) "at")
    (tSeq (tDrop (tMeth Z.M "forget" (sp_M_forget Z) [] E0 (tVar 0) (tCons (tVar 1) tNil)))
    (tSeq (sFld Z.K (tVar 3) (tC (.int 0)) "cell")
    (tSeq (sFld Z.K (tVar 3) (tC (.int 0)) "mark")
    ((tRet (tTup (tCons (tC (.str "ends")) (tCons (tVar 2) tNil))))))))))
/-- Machine.forget: 0 self, 1 hand, 2 one -/
def t_M_forget (Z : Cs) : TS :=
  tSeq (tAsg (tOp (rIxL Z.K) (tFld Z.K (tVar 0) "hands") (tVar 1)) (gName 2))
    (tSeq (sFld Z.K (tVar 2) (tC .non) "seen")
    (tSeq (sFld Z.K (tVar 2) (tC .non) "follow")
    ((sFld Z.K (tVar 2) (tC (.bl false)) "looked"))))
/-- Machine.exchange: 0 self, 1 hand, 2 cell -/
def t_M_exchange (Z : Cs) : TS :=
  tSeq (tIfS (tTest (tOp (rNeD Z.K) (tTup (tCons (tFld Z.K (tVar 0) "top") (tCons (tFld Z.K (tVar 0) "count") tNil))) (tFld Z.K (tOp (rIxL Z.K) (tFld Z.K (tVar 0) "hands") (tVar 1)) "seen"))) (tSeq (tDrop (tMeth Z.M "forget" (sp_M_forget Z) [] E0 (tVar 0) (tCons (tVar 1) tNil)))
    ((tRet (tC (.bl false))))) (tNext))
    (tSeq (sFld Z.K (tVar 0) (tVar 2) "top")
    (tSeq (tIfS (tTest (tOp rEq (tOp (rIxT Z.K) (tFld Z.K (tVar 0) "rule") (tC (.int 0))) (tC (.str "counts")))) ((sFld Z.K (tVar 0) (tOp rModI (tOp rAddI (tFld Z.K (tVar 0) "count") (tC (.int 1))) (tOp (rIxT Z.K) (tFld Z.K (tVar 0) "rule") (tC (.int 1)))) "count")) (tNext))
    (tSeq (tDrop (tBM Z.K "list" rAppend (tFld Z.K (tVar 0) "ends") (tCons (tTup (tCons (tVar 1) (tCons (tFld Z.K (tOp (rIxL Z.K) (tFld Z.K (tVar 0) "hands") (tVar 1)) "at") tNil))) tNil)))
    ((tRet (tC (.bl true)))))))
/-- Machine.push: 0 self, 1 hand, 2 one -/
def t_M_push (Z : Cs) : TS :=
  tSeq (tAsg (tOp (rIxL Z.K) (tFld Z.K (tVar 0) "hands") (tVar 1)) (gName 2))
    (tSeq (tIfS (tTest (tOp rIsN (tFld Z.K (tVar 2) "follow") (tC .non))) (tSeq (sFld Z.K (tVar 2) (tOp (rIxT Z.K) (tFld Z.K (tVar 2) "seen") (tC (.int 0))) "follow")
    (tSeq (tAsg (tFld Z.K (tVar 2) "follow") (gSub (tFld Z.K (tVar 0) "links") (tOp rSubI (tFld Z.K (tVar 2) "cell") (tC (.int 1))) rSetL))
    ((tRet (tTup (tCons (tC (.str "links")) (tCons (tFld Z.K (tVar 2) "follow") tNil))))))) (tNext))
    (tSeq (tIfS (tNot (tB (tMeth Z.M "exchange" (sp_M_exchange Z) [] E0 (tVar 0) (tCons (tVar 1) (tCons (tFld Z.K (tVar 2) "cell") tNil))))) ((tRet (tTup (tCons (tC (.str "misses")) tNil)))) (tNext))
    ((tRet (tMeth Z.M "ended" (sp_M_ended Z) [] E0 (tVar 0) (tCons (tVar 1) (tCons (tC (.str "done")) tNil)))))))
/-- Machine.pop: 0 self, 1 hand, 2 one, 3 cell, 4 follow -/
def t_M_pop (Z : Cs) : TS :=
  tSeq (tAsg (tOp (rIxL Z.K) (tFld Z.K (tVar 0) "hands") (tVar 1)) (gName 2))
    (tSeq (tIfS (tTest (tOp rNe (tFld Z.K (tVar 2) "cell") (tC (.int 0)))) (tSeq (tDrop (tBM Z.K "list" rAppend (tFld Z.K (tVar 0) "freed") (tCons (tFld Z.K (tVar 2) "cell") tNil)))
    ((tRet (tMeth Z.M "ended" (sp_M_ended Z) [] E0 (tVar 0) (tCons (tVar 1) (tCons (tOp (rIxL Z.K) (tFld Z.K (tVar 0) "worths") (tOp rSubI (tFld Z.K (tVar 2) "cell") (tC (.int 1)))) tNil)))))) (tNext))
    (tSeq (tAsg (tOp (rIxT Z.K) (tFld Z.K (tVar 2) "seen") (tC (.int 0))) (gName 3))
    (tSeq (tIfS ((tAnd (tTest (tOp rEq (tOp (rIxT Z.K) (tFld Z.K (tVar 0) "rule") (tC (.int 0))) (tC (.str "marks")))) (tAnd (tTest (tOp (rIn Z.K false) (tVar 1) (tOp (rIxT Z.K) (tFld Z.K (tVar 0) "rule") (tC (.int 1))))) (tNot (tB (tFld Z.K (tVar 2) "looked")))))) ((tRet (tMeth Z.M "guard" (sp_M_guard Z) [] E0 (tVar 0) (tCons (tVar 1) (tCons (tVar 3) tNil))))) (tNext))
    (tSeq (tIfS (tTest (tOp rIsN (tFld Z.K (tVar 2) "follow") (tC .non))) (tSeq (sFld Z.K (tVar 2) (tOp (rIxL Z.K) (tFld Z.K (tVar 0) "links") (tOp rSubI (tVar 3) (tC (.int 1)))) "follow")
    ((tRet (tTup (tCons (tC (.str "follows")) (tCons (tFld Z.K (tVar 2) "follow") tNil)))))) (tNext))
    (tSeq (tAsg (tFld Z.K (tVar 2) "follow") (gName 4))
    (tSeq (tIfS (tNot (tB (tMeth Z.M "exchange" (sp_M_exchange Z) [] E0 (tVar 0) (tCons (tVar 1) (tCons (tVar 4) tNil))))) ((tRet (tTup (tCons (tC (.str "misses")) tNil)))) (tNext))
    (tSeq (sFld Z.K (tVar 0) (tOrV (tFld Z.K (tVar 0) "strayed") (tOp (rNeD Z.K) (tOp (rIxL Z.K) (tFld Z.K (tVar 0) "links") (tOp rSubI (tVar 3) (tC (.int 1)))) (tVar 4))) "strayed")
    (tSeq (sFld Z.K (tVar 2) (tVar 3) "cell")
    ((tRet (tTup (tCons (tC (.str "exchanges")) (tCons (tVar 4) tNil)))))))))))))
/-- Machine.guard: 0 self, 1 hand, 2 cell, 3 one -/
def t_M_guard (Z : Cs) : TS :=
  tSeq (tAsg (tOp (rIxL Z.K) (tFld Z.K (tVar 0) "hands") (tVar 1)) (gName 3))
    (tSeq (tIfS (tTest (tOp rNe (tFld Z.K (tVar 3) "mark") (tVar 2))) (tSeq (sFld Z.K (tVar 3) (tVar 2) "mark")
    ((tRet (tTup (tCons (tC (.str "marks")) (tCons (tVar 2) tNil)))))) (tNext))
    (tSeq (tIfS (tTest (tOp rNe (tFld Z.K (tVar 0) "top") (tVar 2))) (tSeq (tDrop (tMeth Z.M "forget" (sp_M_forget Z) [] E0 (tVar 0) (tCons (tVar 1) tNil)))
    ((tRet (tTup (tCons (tC (.str "looks")) (tCons (tC (.bl false)) tNil)))))) (tNext))
    (tSeq (sFld Z.K (tVar 3) (tC (.bl true)) "looked")
    ((tRet (tTup (tCons (tC (.str "looks")) (tCons (tC (.bl true)) tNil))))))))
end SS

set_option Elab.async false
set_option linter.all false
set_option maxRecDepth 100000
set_option maxHeartbeats 4000000
namespace SS
open PySem L2
abbrev endsOf (Q : VK) : Ends := { nx := fun _ H' => Q .non H', rt := Q, bk := fun _ _ => False, ct := fun _ _ => False }
local macro_rules | `(tactic| walk_at "q") => `(tactic| ((try dsimp only); refine s_seq ?_))
theorem pure_M_need_hand {Z : Cs} (k : ZOk Z) (vs : List V) (H : Hp) (Q : VK) (E : XK) (h : sp_M_need_hand Z vs H Q E) : t_M_need_hand Z { nx := fun _ H' => Q .non H', rt := Q } (start ["self", "hand"] vs) H := by
  obtain ⟨A, m, h, a, rfl, T, ha, q⟩ := h
  have hl : (h : Int) < ((A.hs.map fun a => V.ref a.h).length : Int) := by
    rw [List.length_map]
    exact Int.ofNat_lt.mpr (List.getElem?_eq_some_iff.mp ha).1
  have hl2 : h < A.hs.length := (List.getElem?_eq_some_iff.mp ha).1
  unfold t_M_need_hand
  walk_at "q"
  refine (s_ifF (et_is (et_not (et_test (ev_leLt ev_c (ev_var rfl) (ev_lenL (em_hands k T (ev_var rfl)) (SqL.of T.handsLL))))) ?_) (s_ret (em_hand k T ha (ev_var rfl) (ev_var rfl)) q))
  simp [hl2]
theorem pure_M_rests {Z : Cs} (k : ZOk Z) (vs : List V) (H : Hp) (Q : VK) (E : XK) (h : sp_M_rests Z vs H Q E) : t_M_rests Z { nx := fun _ H' => Q .non H', rt := Q } (start ["self", "hand"] vs) H := by
  obtain ⟨A, m, h, a, rfl, T, ha, q⟩ := h
  obtain ⟨sv, O, S⟩ := T.handO ha
  obtain ⟨us, P, hu⟩ := T.progL ha
  unfold t_M_rests
  refine s_ret (ev_is (ev_eq (eh_at k O (em_hand k T ha (ev_var rfl) (ev_var rfl))) (ev_lenL (eh_program k O (em_hand k T ha (ev_var rfl) (ev_var rfl))) (SqL.of P)) rfl) ?_) q
  rw [hu.length]
  unfold M.rests
  congr 1
  rw [dec_int, Bool.beq_eq_decide_eq, Bool.beq_eq_decide_eq]
  exact decide_eq_decide.mpr Int.ofNat_inj
theorem pure_M_forget {Z : Cs} (k : ZOk Z) (vs : List V) (H : Hp) (Q : VK) (E : XK) (h : sp_M_forget Z vs H Q E) : t_M_forget Z { nx := fun _ H' => Q .non H', rt := Q } (start ["self", "hand", "one"] vs) H := by
  obtain ⟨A, m, h, a, rfl, T, ha, q⟩ := h
  obtain ⟨sv, O, S⟩ := T.handO ha
  unfold t_M_forget
  walk_at "q"
  refine (s_asg (em_hand k T ha (ev_var rfl) (ev_var rfl)) ?_)
  rw [← M.setH_self (m := m) (h := h)] at T
  walk_at "q"
  refine (sh_seen (o := none) k T ha O rfl ev_c (ev_var rfl) fun H1 T1 C1 O1 => ?_)
  walk_at "q"
  refine (sh_follow (o := none) k T1 ha O1 rfl ev_c (ev_var rfl) fun H2 T2 C2 O2 => ?_)
  refine sh_looked (b := false) k T2 ha O2 rfl ev_c (ev_var rfl) fun H3 T3 C3 O3 => ?_
  exact q H3 T3 ((C1.trans C2).trans C3)

section
variable {Z : Cs} {A : MA} {m m' : M} {H H0 : Hp} {s : L2.St} {D : Ends} {ar : TA} {w : Tell}
/-- return (a word, ..) -/
theorem s_tell (T : MachAt Z H A m') (C : Chg A.owns H0 H) (h : EvA ar s H (tellVs w)) (q : ∀ H' v, MachAt Z H' A m' → Chg A.owns H0 H' → TellAt H' v w → D.rt v H') : tRet (tTup ar) D s H :=
  e_tup h (by cases w <;> simp [tellVs]) fun p hp => q _ _ (T.new hp) (C.trans (Chg.same (Same.new hp))) ⟨p, rfl, upd_same⟩
end
theorem ansV_int (n : Nat) : ansV (.val n) = natV n := rfl
theorem pure_M_ended {Z : Cs} (k : ZOk Z) (vs : List V) (H : Hp) (Q : VK) (E : XK) (h : sp_M_ended Z vs H Q E) : t_M_ended Z { nx := fun _ H' => Q .non H', rt := Q } (start ["self", "hand", "answer", "one"] vs) H := by
  obtain ⟨A, m, h, a, w, rfl, T, ha, hz, q⟩ := h
  obtain ⟨sv, O, S⟩ := T.handO ha
  unfold t_M_ended
  walk_at "q"
  refine (s_asg (em_hand k T ha (ev_var rfl) (ev_var rfl)) ?_)
  rw [← M.setH_self (m := m) (h := h)] at T
  walk_at "q"
  refine (sh_said (w := w) k T ha O S hz (ev_var rfl) (ev_var rfl) fun H1 T1 C1 O1 => ?_)
  have S1 := S.mono C1.tup
  walk_at "q"
  refine (sh_at (n := (m.hd h).at_ + 1) k T1 ha O1 S1 (ev_add (eh_at k O1 (ev_var rfl)) ev_c) (ev_var rfl) fun H2 T2 C2 O2 => ?_)
  have S2 := S1.mono C2.tup
  have hl := T.len ha
  rw [M.setH_len] at hl
  walk_at "q"
  refine (s_drop' (s_meth (ev_var rfl) T2.obj (mf_no _ _ _ (by simp)) (ea_cons (ev_var rfl) ea_nil) ⟨A, _, h, a, rfl, T2, ha, fun H3 T3 C3 => ?_⟩))
  rw [M.setH_hd hl, M.setH_setH] at T3
  obtain ⟨sv3, O3, S3⟩ := T3.hO ha
  walk_at "q"
  refine (sh_cell (n := 0) k T3 ha O3 S3 ev_c (ev_var rfl) fun H4 T4 C4 O4 => ?_)
  have S4 := S3.mono C4.tup
  walk_at "q"
  refine (sh_mark (n := 0) k T4 ha O4 S4 ev_c (ev_var rfl) fun H5 T5 C5 O5 => ?_)
  refine s_tell (w := .ends w) T5 ((((C1.trans C2).trans C3).trans C4).trans C5) (ea_cons ev_c (ea_cons (ev_var rfl) ea_nil)) fun H' v T' C' W => ?_
  exact q H' v T' C' W
theorem seenD {K : PySem.W.Frag} {H : Hp} {v : V} : ∀ {o : Option (Nat × Nat)}, SeenAt H v o → ∃ d, Dp K H v d ∧ SeqAt.shaped d = true ∧ ∀ t c : Nat, PyData.eqv (.tuple [.int t, .int c]) d = decide (o = some (t, c))
  | none, h => ⟨.none, by rw [show v = .non from h]; exact .non, rfl, fun t c => rfl⟩
  | some (a, b), ⟨q, e, h⟩ => ⟨.tuple [.int a, .int b], by rw [e]; exact .tup (SqT.of h) (.cons (.int _) (.cons (.int _) .nil)), rfl, fun t c => by
      have h1 : PyData.eqv (.tuple [.int t, .int c]) (.tuple [.int a, .int b]) = (((t : Int) == (a : Int)) && (((c : Int) == (b : Int)) && true)) := rfl
      rw [h1, Bool.and_true]
      by_cases e1 : t = a
      · by_cases e2 : c = b
        · subst e1 e2
          simp
        · have n1 : ((c : Int) == (b : Int)) = false := by simpa using fun z => e2 (Int.ofNat_inj.mp z)
          rw [n1, Bool.and_false]
          exact (decide_eq_false (fun z => e2 (by cases z; rfl))).symm
      · have n1 : ((t : Int) == (a : Int)) = false := by simpa using fun z => e1 (Int.ofNat_inj.mp z)
        rw [n1, Bool.false_and]
        exact (decide_eq_false (fun z => e1 (by cases z; rfl))).symm⟩
theorem pure_M_exchange {Z : Cs} (k : ZOk Z) (vs : List V) (H : Hp) (Q : VK) (E : XK) (h : sp_M_exchange Z vs H Q E) : t_M_exchange Z { nx := fun _ H' => Q .non H', rt := Q } (start ["self", "hand", "cell"] vs) H := by
  obtain ⟨A, m, h, c, a, rfl, T, ha, hz, oc, q⟩ := h
  unfold t_M_exchange
  -- the comparison: a new tuple
  have key : ∀ (tu tw : TS) (D : Ends) (s : L2.St), s[0]? = some (some (.ref A.p)) → s[1]? = some (some (.int h)) → (m.fits h = false → ∀ H1, MachAt Z H1 A m → Chg A.owns H H1 → tu D s H1) → (m.fits h = true → ∀ H1, MachAt Z H1 A m → Chg A.owns H H1 → tw D s H1) →
      tIfS (tTest (tOp (rNeD Z.K) (tTup (tCons (tFld Z.K (tVar 0) "top") (tCons (tFld Z.K (tVar 0) "count") tNil))) (tFld Z.K (tOp (rIxL Z.K) (tFld Z.K (tVar 0) "hands") (tVar 1)) "seen"))) tu tw D s H := by
    intro tu tw D s h0 h1 kF kT
    refine s_if_of (t_test_of (t_op_of (e_tup (ea_cons (em_top k T (ev_var h0)) (ea_cons (em_count k T (ev_var h0)) ea_nil)) (by show 2 ≤ 1000; decide) fun p hp => ?_)))
    have T1 := T.new (o := .tup [.int m.top, .int m.count]) hp
    obtain ⟨sv, O, S⟩ := T1.handO ha
    obtain ⟨d, hd, sd, ed⟩ := seenD (K := Z.K) S
    refine (eh_seen k O (em_hand k T1 ha (ev_var h0) (ev_var h1))) _ ?_
    refine ⟨.tuple [.int m.top, .int m.count], d, .tup (SqT.of upd_same) (.cons (.int _) (.cons (.int _) .nil)), hd, rfl, sd, ⟨_, rfl, ?_⟩⟩
    rw [ed]
    unfold M.fits at kF kT
    cases e : decide ((m.hd h).seen = some (m.top, m.count)) with
    | true => exact kT e _ T1 (Chg.same (Same.new hp))
    | false => exact kF e _ T1 (Chg.same (Same.new hp))
  walk_at "q"
  refine key _ _ _ _ rfl rfl (fun e H1 T1 C1 => ?_) (fun e H1 T1 C1 => ?_)
  · have ex : m.exch h c = (false, m.setH h (m.hd h).forgot) := by unfold M.exch; rw [e]; rfl
    rw [ex] at q
    walk_at "q"
    refine (s_drop' (s_meth (ev_var rfl) T1.obj (mf_no _ _ _ (by simp)) (ea_cons (ev_var rfl) ea_nil) ⟨A, _, h, a, rfl, T1, ha, fun H2 T2 C2 => ?_⟩))
    dsimp only
    exact s_ret ev_c (q H2 T2 (C1.trans C2))
  · have ex : m.exch h c = (true, m.exchd h c) := by unfold M.exch; rw [e]; rfl
    rw [ex] at q
    dsimp only [tNext]
    walk_at "q"
    refine (sm_top (t := c) k T1 (ev_var rfl) (ev_var rfl) fun H2 T2 C2 K2 => ?_)
    -- the count
    have cnt : ∀ (tw : TS) (D : Ends) (s : L2.St), s[0]? = some (some (.ref A.p)) → (∀ H3, MachAt Z H3 A { m with top := c, count := m.turned } → Chg A.owns H H3 → D.nx s H3) →
        tIfS (tTest (tOp rEq (tOp (rIxT Z.K) (tFld Z.K (tVar 0) "rule") (tC (.int 0))) (tC (.str "counts")))) (sFld Z.K (tVar 0) (tOp rModI (tOp rAddI (tFld Z.K (tVar 0) "count") (tC (.int 1))) (tOp (rIxT Z.K) (tFld Z.K (tVar 0) "rule") (tC (.int 1)))) "count") tNext D s H2 := by
      intro tw D s h0 kk
      have R := T2.rule
      cases er : m.rule with
      | counts n =>
        have R : H2 A.rule = some (.tup [.str "counts", .int n]) := by
          have := R
          simp only [er, RuleAt] at this
          exact this
        refine s_ifT (et_is (et_test (ev_eq (ev_ixT (em_rule k T2 (ev_var h0)) ev_c (SqT.of R) (atI_nat (j := 0) rfl)) ev_c rfl)) rfl) ?_
        refine sm_count (t := (m.count + 1) % n) k T2 (ev_mod (ev_add (em_count k T2 (ev_var h0)) ev_c) (ev_ixT (em_rule k T2 (ev_var h0)) ev_c (SqT.of R) (atI_nat (j := 1) rfl)) (by have := oc n er; omega)) (ev_var h0) fun H3 T3 C3 _ => ?_
        have et : m.turned = (m.count + 1) % n := by unfold M.turned; rw [er]
        rw [← et] at T3
        exact kk H3 T3 ((C1.trans C2).trans C3)
      | marks hs =>
        have R : ∃ t, H2 A.rule = some (.tup [.str "marks", .ref t]) ∧ H2 t = some (.tup (hs.map natV)) := by
          have := R
          simp only [er, RuleAt] at this
          exact this
        obtain ⟨t, R, _⟩ := R
        refine s_ifF (et_is (et_test (ev_eq (ev_ixT (em_rule k T2 (ev_var h0)) ev_c (SqT.of R) (atI_nat (j := 0) rfl)) ev_c rfl)) (by decide +kernel)) ?_
        have et : m.turned = m.count := by unfold M.turned; rw [er]
        exact kk H2 (by rw [et]; exact T2) (C1.trans C2)
      | keeps =>
        have R : H2 A.rule = some (.tup [.str "keeps"]) := by
          have := R
          simp only [er, RuleAt] at this
          exact this
        refine s_ifF (et_is (et_test (ev_eq (ev_ixT (em_rule k T2 (ev_var h0)) ev_c (SqT.of R) (atI_nat (j := 0) rfl)) ev_c rfl)) (by decide +kernel)) ?_
        have et : m.turned = m.count := by unfold M.turned; rw [er]
        exact kk H2 (by rw [et]; exact T2) (C1.trans C2)
    walk_at "q"
    refine (cnt tNext _ _ rfl fun H3 T3 C3 => ?_)
    -- self.ends.append((hand, self.hands[hand].at))
    obtain ⟨sv, O, S⟩ := T3.handO ha
    obtain ⟨us, L, hu⟩ := T3.endsL
    walk_at "q"
    refine s_appX (em_ends k T3 (ev_var rfl)) L ?_
    refine e_tup (ea_cons (ev_var rfl) (ea_cons (eh_at k O (em_hand k T3 ha (ev_var rfl) (ev_var rfl))) ea_nil)) (by show 2 ≤ 1000; decide) fun p hp => ?_
    have L' : upd H3 p (.tup [.int h, .int (m.hd h).at_]) A.ends = some (.lst us) := Same.new hp _ _ L
    refine ⟨us, L', by rw [hu.length]; exact Nat.lt_of_lt_of_le hz (by decide), ?_⟩
    have T4 := T3.new (o := .tup [.int h, .int (m.hd h).at_]) hp
    obtain ⟨T5, C5⟩ := T4.addEnd (vs := us) (v := .ref p) (p := (h, (m.hd h).at_)) (hu.mono fun _ _ => PairAt.mono fun b xs e => Same.new hp _ _ e) ⟨p, rfl, upd_same⟩
    dsimp only
    exact s_ret ev_c (q _ T5 ((C3.trans (Chg.same (Same.new hp))).trans C5))
end SS

set_option Elab.async false
set_option linter.all false
set_option maxRecDepth 100000
set_option maxHeartbeats 4000000
namespace SS
open PySem L2
local macro_rules | `(tactic| walk_at "q") => `(tactic| ((try dsimp only); refine s_seq ?_))

theorem pure_M_guard {Z : Cs} (k : ZOk Z) (vs : List V) (H : Hp) (Q : VK) (E : XK) (h : sp_M_guard Z vs H Q E) : t_M_guard Z { nx := fun _ H' => Q .non H', rt := Q } (start ["self", "hand", "cell", "one"] vs) H := by
  obtain ⟨A, m, h, c, a, rfl, T, ha, q⟩ := h
  obtain ⟨sv, O, S⟩ := T.handO ha
  unfold t_M_guard
  walk_at "q"
  refine s_asg (em_hand k T ha (ev_var rfl) (ev_var rfl)) ?_
  rw [← M.setH_self (m := m) (h := h)] at T
  walk_at "q"
  refine s_if (et_test (ev_ne (eh_mark k O (ev_var rfl)) (ev_var rfl) rfl)) (fun e => ?_) (fun e => ?_)
  · have e1 : (m.hd h).mark ≠ c := fun z => by simp [z] at e
    have eg : m.guard h c = (.marks c, m.setH h { m.hd h with mark := c }) := by unfold M.guard; rw [if_pos e1]
    rw [eg] at q
    walk_at "q"
    refine sh_mark (n := c) k T ha O S (ev_var rfl) (ev_var rfl) fun H1 T1 C1 O1 => ?_
    dsimp only
    exact s_tell (w := .marks c) T1 C1 (ea_cons ev_c (ea_cons (ev_var rfl) ea_nil)) q
  · have e1 : (m.hd h).mark = c := by
      have := e
      simp only [Bool.not_eq_false', decide_eq_true_eq] at this
      have z := V.int.inj this
      exact Int.ofNat_inj.mp z
    dsimp only [tNext]
    rw [M.setH_self] at T
    walk_at "q"
    refine s_if (et_test (ev_ne (em_top k T (ev_var rfl)) (ev_var rfl) rfl)) (fun e => ?_) (fun e => ?_)
    · have e2 : m.top ≠ c := fun z => by simp [z] at e
      have eg : m.guard h c = (.looks false, m.setH h (m.hd h).forgot) := by unfold M.guard; rw [if_neg (not_not_intro e1), if_pos e2]
      rw [eg] at q
      walk_at "q"
      refine s_drop' (s_meth (ev_var rfl) T.obj (mf_no _ _ _ (by simp)) (ea_cons (ev_var rfl) ea_nil) ⟨A, _, h, a, rfl, T, ha, fun H2 T2 C2 => ?_⟩)
      dsimp only
      exact s_tell (w := .looks false) T2 C2 (ea_cons ev_c (ea_cons ev_c ea_nil)) q
    · have e2 : m.top = c := by
        have := e
        simp only [Bool.not_eq_false', decide_eq_true_eq] at this
        have z := V.int.inj this
        exact Int.ofNat_inj.mp z
      have eg : m.guard h c = (.looks true, m.setH h { m.hd h with looked := true }) := by unfold M.guard; rw [if_neg (not_not_intro e1), if_neg (not_not_intro e2)]
      rw [eg] at q
      dsimp only [tNext]
      rw [← M.setH_self (m := m) (h := h)] at T
      walk_at "q"
      refine sh_looked (b := true) k T ha O S ev_c (ev_var rfl) fun H1 T1 C1 O1 => ?_
      dsimp only
      exact s_tell (w := .looks true) T1 C1 (ea_cons ev_c (ea_cons ev_c ea_nil)) q
/-- self.ends.append((hand, one.at)), the hand in slot 1, one in slot 2 -/
theorem s_ends {Z : Cs} {A : MA} {m : M} {H : Hp} {s : L2.St} {D : Ends} {h : Nat} {a : HA} {sv : V} {x : Hd} {te : TE} (k : ZOk Z) (T : MachAt Z H A m) (ha : A.hs[h]? = some a) (hz : m.ends.length < 1000) (h0 : s[0]? = some (some (.ref A.p))) (h1 : s[1]? = some (some (.int h)))
    (ht : Ev te s H (.int (m.hd h).at_)) (q : ∀ H', MachAt Z H' A { m with ends := m.ends ++ [(h, (m.hd h).at_)] } → Chg A.owns H H' → D.nx s H') :
    tDrop (tBM Z.K "list" rAppend (tFld Z.K (tVar 0) "ends") (tCons (tTup (tCons (tVar 1) (tCons te tNil))) tNil)) D s H := by
  obtain ⟨us, L, hu⟩ := T.endsL
  refine s_appX (em_ends k T (ev_var h0)) L ?_
  refine e_tup (ea_cons (ev_var h1) (ea_cons ht ea_nil)) (by show 2 ≤ 1000; decide) fun p hp => ?_
  have L' : upd H p (.tup [.int h, .int (m.hd h).at_]) A.ends = some (.lst us) := Same.new hp _ _ L
  refine ⟨us, L', by rw [hu.length]; exact Nat.lt_of_lt_of_le hz (by decide), ?_⟩
  have T4 := T.new (o := .tup [.int h, .int (m.hd h).at_]) hp
  obtain ⟨T5, C5⟩ := T4.addEnd (vs := us) (v := .ref p) (p := (h, (m.hd h).at_)) (hu.mono fun _ _ => PairAt.mono fun b xs e => Same.new hp _ _ e) ⟨p, rfl, upd_same⟩
  exact q _ T5 ((Chg.same (Same.new hp)).trans C5)
/-- a deed of a hand's program -/
theorem MachAt.deed {Z : Cs} {A : MA} {m : M} {H : Hp} {h : Nat} {a : HA} {d : Deed} {i : Nat} (T : MachAt Z H A m) (ha : A.hs[h]? = some a) (hd : (m.prog h)[i]? = some d) :
    ∃ us q, H a.prog = some (.lst us) ∧ atI us (i : Int) = some (.ref q) ∧ H q = some (.tup (deedVs d)) := by
  obtain ⟨us, P, hu⟩ := T.progL ha
  obtain ⟨v, hv, q, rfl, hq⟩ := hu.get i hd
  exact ⟨us, q, P, atI_nat hv, hq⟩
theorem pure_M_read {Z : Cs} (k : ZOk Z) (vs : List V) (H : Hp) (Q : VK) (E : XK) (h : sp_M_read Z vs H Q E) : t_M_read Z { nx := fun _ H' => Q .non H', rt := Q } (start ["self", "hand", "one"] vs) H := by
  obtain ⟨A, m, h, a, d, rfl, T, ha, hd, hs, hz, q⟩ := h
  obtain ⟨sv, O, S⟩ := T.handO ha
  obtain ⟨us, p, P, hp, hq⟩ := T.deed ha hd
  unfold t_M_read
  walk_at "q"
  refine s_asg (em_hand k T ha (ev_var rfl) (ev_var rfl)) ?_
  walk_at "q"
  have test : EvT (tAnd (tTest (tOp rEq (tFld Z.K (tVar 0) "top") (tC (.int 0)))) (tTest (tOp rEq (tOp (rIxT Z.K) (tOp (rIxL Z.K) (tFld Z.K (tVar 2) "program") (tFld Z.K (tVar 2) "at")) (tC (.int 0))) (tC (.str "pop")))))
      ((start ["self", "hand", "one"] [.ref A.p, .int h]).set 2 (some (.ref a.h))) H (decide (m.top = 0 ∧ d = .pop)) := by
    refine et_is (et_and (et_test (ev_eq (em_top k T (ev_var rfl)) ev_c rfl)) fun _ => et_test (ev_eq (ev_ixT (ev_ixL (eh_program k O (ev_var rfl)) (eh_at k O (ev_var rfl)) (SqL.of P) hp) ev_c (SqT.of hq) (v := .str (match d with | .pop => "pop" | .push _ => "push")) ?_) ev_c ?_)) ?_
    · cases d <;> exact atI_nat (j := 0) rfl
    · cases d <;> rfl
    · have e0 : decide (V.int (m.top : Int) = V.int 0) = decide (m.top = 0) := decide_eq_decide.mpr ⟨fun e => Int.ofNat_inj.mp (V.int.inj e), fun e => by rw [e]; rfl⟩
      rw [e0]
      cases d with
      | pop => simp
      | push v =>
        have n : ¬ (("push" : Str) = "pop") := by decide +kernel
        simp [n]
  refine s_if test (fun e => ?_) (fun e => ?_)
  · have e1 : m.top = 0 ∧ d = .pop := of_decide_eq_true e
    have er : m.read h d = (.ends .non, { m with ends := m.ends ++ [(h, (m.hd h).at_)] }.endedH h .non) := by unfold M.read; rw [if_pos e1]
    rw [er] at q
    walk_at "q"
    refine s_ends (x := m.hd h) (sv := sv) k T ha hz rfl rfl (eh_at k O (ev_var rfl)) fun H1 T1 C1 => ?_
    dsimp only
    refine s_meth (ev_var rfl) T1.obj (mf_no _ _ _ (by simp)) (ea_cons (ev_var rfl) (ea_cons ev_c ea_nil)) ⟨A, _, h, a, .non, rfl, T1, ha, hs, fun H2 v T2 C2 W => ?_⟩
    exact q H2 v T2 (C1.trans C2) W
  · have e1 : ¬ (m.top = 0 ∧ d = .pop) := of_decide_eq_false e
    have er : m.read h d = (.reads m.top, m.setH h { m.hd h with seen := some (m.top, m.count) }) := by unfold M.read; rw [if_neg e1]
    rw [er] at q
    dsimp only [tNext]
    walk_at "q"
    refine e_tup (ea_cons (em_top k T (ev_var rfl)) (ea_cons (em_count k T (ev_var rfl)) ea_nil)) (by show 2 ≤ 1000; decide) fun p' hp' => ?_
    have T1 := T.new (o := .tup [.int m.top, .int m.count]) hp'
    have C1 : Chg A.owns H (upd H p' (.tup [.int m.top, .int m.count])) := Chg.same (Same.new hp')
    obtain ⟨sv1, O1, S1⟩ := T1.handO ha
    rw [← M.setH_self (m := m) (h := h)] at T1
    show sFld Z.K (tVar 2) (tC (.ref p')) "seen" _ _ _
    refine sh_seen (o := some (m.top, m.count)) k T1 ha O1 ⟨p', rfl, upd_same⟩ ev_c (ev_var rfl) fun H2 T2 C2 O2 => ?_
    dsimp only
    exact s_tell (w := .reads m.top) T2 (C1.trans C2) (ea_cons ev_c (ea_cons (ev_is (em_top k T2 (ev_var rfl)) rfl) ea_nil)) q
theorem ixN_pred {n c : Nat} (h1 : 1 ≤ c) (h2 : c ≤ n) : ixN n ((c : Int) - 1) = some (c - 1) := by
  have e : (c : Int) - 1 = ((c - 1 : Nat) : Int) := by omega
  rw [e]
  unfold ixN
  rw [if_pos (by omega), if_pos (by omega)]
  simp
theorem atI_pred {α : Type} {xs : List α} {c : Nat} {v : α} (h1 : 1 ≤ c) (h : xs[c - 1]? = some v) : atI xs ((c : Int) - 1) = some v := by
  have e : (c : Int) - 1 = ((c - 1 : Nat) : Int) := by omega
  rw [e]
  exact atI_nat h
theorem optV_non {o : Option Nat} : decide (optV o = .non) = decide (o = none) := by
  cases o with
  | none => rfl
  | some n => rfl
theorem pure_M_push {Z : Cs} (k : ZOk Z) (vs : List V) (H : Hp) (Q : VK) (E : XK) (h : sp_M_push Z vs H Q E) : t_M_push Z { nx := fun _ H' => Q .non H', rt := Q } (start ["self", "hand", "one"] vs) H := by
  obtain ⟨A, m, h, t, kk, a, rfl, T, ha, hseen, ⟨hc1, hc2⟩, hs, hz, oc, q⟩ := h
  obtain ⟨sv, O, S⟩ := T.handO ha
  unfold t_M_push
  walk_at "q"
  refine s_asg (em_hand k T ha (ev_var rfl) (ev_var rfl)) ?_
  walk_at "q"
  cases ef : (m.hd h).follow with
  | none =>
    have ep : m.push h t = (.links t, { m with links := m.links.set ((m.hd h).cell - 1) t }.setH h { m.hd h with follow := some t }) := by unfold M.push; rw [ef]
    rw [ep] at q
    refine s_ifT (et_is (et_test (ev_isN (eh_follow k O (ev_var rfl)))) (by rw [optV_non, ef]; rfl)) ?_
    have S' := S
    rw [hseen] at S'
    obtain ⟨p, rfl, hp⟩ := S'
    rw [← M.setH_self (m := m) (h := h)] at T
    walk_at "q"
    refine sh_follow (o := some t) k T ha O S (ev_ixT (eh_seen k O (ev_var rfl)) ev_c (SqT.of hp) (atI_nat (j := 0) rfl)) (ev_var rfl) fun H1 T1 C1 O1 => ?_
    walk_at "q"
    refine s_setL (j := (m.hd h).cell - 1) (eh_follow k O1 (ev_var rfl)) (em_links k T1 (ev_var rfl)) (ev_sub (eh_cell k O1 (ev_var rfl)) ev_c) T1.linksL (by rw [List.length_map]; exact ixN_pred hc1 hc2) ?_
    obtain ⟨T2, C2⟩ := T1.setLinks (m.links.set ((m.hd h).cell - 1) t)
    have el : (List.map natV (m.setH h { m.hd h with follow := some t }).links).set ((m.hd h).cell - 1) (optV (some t)) = (m.links.set ((m.hd h).cell - 1) t).map natV := by
      rw [List.map_set]
      rfl
    dsimp only at el ⊢
    rw [el]
    obtain ⟨sv2, O2, S2⟩ := (show MachAt Z _ A (M.setH { m with links := m.links.set ((m.hd h).cell - 1) t } h { m.hd h with follow := some t }) from T2).hO ha
    exact s_tell (w := .links t) T2 (C1.trans C2) (ea_cons ev_c (ea_cons (eh_follow k O2 (ev_var rfl)) ea_nil)) q
  | some f =>
    refine s_ifF (et_is (et_test (ev_isN (eh_follow k O (ev_var rfl)))) (by rw [optV_non, ef]; rfl)) ?_
    dsimp only [tNext]
    walk_at "q"
    refine s_if_of ?_
    show tMeth _ _ _ _ _ _ _ _ _ _
    refine s_meth (ev_var rfl) T.obj (mf_no _ _ _ (by simp)) (ea_cons (ev_var rfl) (ea_cons (eh_cell k O (ev_var rfl)) ea_nil)) ⟨A, m, h, _, a, rfl, T, ha, hz, oc, fun H1 T1 C1 => ?_⟩
    refine ⟨_, rfl, ?_⟩
    cases e : m.fits h with
    | false =>
      have ex : m.exch h (m.hd h).cell = (false, m.setH h (m.hd h).forgot) := by unfold M.exch; rw [e]; rfl
      have ep : m.push h t = (.misses, m.setH h (m.hd h).forgot) := by unfold M.push; rw [ef, e]; rfl
      rw [ex] at T1 ⊢
      rw [ep] at q
      refine iteT ?_
      dsimp only
      exact s_tell (w := .misses) T1 C1 (ea_cons ev_c ea_nil) q
    | true =>
      have ex : m.exch h (m.hd h).cell = (true, m.exchd h (m.hd h).cell) := by unfold M.exch; rw [e]; rfl
      have ep : m.push h t = (.ends .done, (m.exchd h (m.hd h).cell).endedH h .done) := by unfold M.push; rw [ef, e]; rfl
      rw [ex] at T1 ⊢
      rw [ep] at q
      refine iteF ?_
      dsimp only [tNext]
      refine s_meth (ev_var rfl) T1.obj (mf_no _ _ _ (by simp)) (ea_cons (ev_var rfl) (ea_cons ev_c ea_nil)) ⟨A, _, h, a, .done, rfl, T1, ha, hs, fun H2 v T2 C2 W => ?_⟩
      exact q H2 v T2 (C1.trans C2) W
end SS

set_option Elab.async false
set_option linter.all false
set_option maxRecDepth 100000
set_option maxHeartbeats 4000000
namespace SS
open PySem L2
local macro_rules | `(tactic| walk_at "q") => `(tactic| ((try dsimp only); refine s_seq ?_))

/-! ### small lemmas of lists -/
theorem find_at {p : Nat → Bool} : ∀ {l : List Nat} {i c : Nat}, l[i]? = some c → p c = true → (∀ j d, j < i → l[j]? = some d → p d = false) → l.find? p = some c
  | [], i, c, h, _, _ => by simp at h
  | a :: l, 0, c, h, hp, _ => by
    have e : a = c := Option.some.inj h
    subst e
    rw [List.find?_cons, hp]
  | a :: l, i + 1, c, h, hp, hn => by
    have e : p a = false := hn 0 a (by omega) rfl
    rw [List.find?_cons, e]
    exact find_at (i := i) (by simpa using h) hp fun j d hj hd => hn (j + 1) d (by omega) (by simpa using hd)
theorem find_none' {p : Nat → Bool} {l : List Nat} (h : ∀ (j : Nat) (d : Nat), l[j]? = some d → p d = false) : l.find? p = none := by
  rw [List.find?_eq_none]
  intro x hx
  obtain ⟨j, hj⟩ := List.getElem?_of_mem hx
  rw [h j x hj]
  exact Bool.false_ne_true
theorem erase_at : ∀ {l : List Nat} {i c : Nat}, l[i]? = some c → (∀ j, j < i → l[j]? ≠ some c) → l.eraseIdx i = l.erase c
  | [], i, c, h, _ => by simp at h
  | a :: l, 0, c, h, _ => by
    have e : a = c := Option.some.inj h
    subst e
    simp
  | a :: l, i + 1, c, h, hn => by
    have e : a ≠ c := fun z => hn 0 (by omega) (by rw [z] <;> rfl)
    rw [List.eraseIdx_cons_succ, List.erase_cons_tail (by simpa using e)]
    rw [erase_at (i := i) (by simpa using h) fun j hj q => hn (j + 1) (by omega) (by simpa using q)]
theorem eraseIdx_map' : ∀ (l : List Nat) (i : Nat), (l.map Int.ofNat).eraseIdx i = (l.eraseIdx i).map Int.ofNat
  | [], i => by simp
  | a :: l, 0 => by simp
  | a :: l, i + 1 => by simp [eraseIdx_map' l i]
theorem natV_int (l : List Nat) : l.map natV = (l.map Int.ofNat).map V.int := by
  rw [List.map_map]
  rfl
theorem inV_nat {c : Nat} {l : List Nat} : inV (natV c) (l.map natV) = l.contains c := by
  unfold inV
  rw [List.any_map]
  rw [List.contains_eq_any_beq]
  congr 1
  funext d
  show ((d : Int) == (c : Int)) = (c == d)
  rw [Bool.beq_eq_decide_eq, Bool.beq_eq_decide_eq]
  exact decide_eq_decide.mpr ⟨fun e => (Int.ofNat_inj.mp e).symm, fun e => by rw [e]⟩
theorem flat_nat (l : List Nat) : (l.map natV).all flatV = true := by
  rw [List.all_eq_true]
  intro x hx
  obtain ⟨n, _, rfl⟩ := List.mem_map.mp hx
  rfl
theorem same_newer {H H' : Hp} {D : Addr} {o : HO} (c : Same H H') (h : H D = none) : Same H (upd H' D o) := fun b u e => by
  rw [upd_ne (ne_of_none e h)]
  exact c b u e
theorem take_snoc {α : Type} {l : List α} {i : Nat} {x : α} (h : l[i]? = some x) : l.take (i + 1) = l.take i ++ [x] := by
  rw [List.take_add_one, h]
  rfl
theorem map_get {α β : Type} {f : α → β} {l : List α} {i : Nat} {y : β} (h : (l.map f)[i]? = some y) : ∃ x, l[i]? = some x ∧ y = f x := by
  rw [List.getElem?_map] at h
  cases e : l[i]? with
  | none =>
    rw [e] at h
    cases h
  | some x =>
    rw [e] at h
    exact ⟨x, rfl, (Option.some.inj h).symm⟩
theorem dec_nat {a b : Nat} : decide (V.int (a : Int) = V.int (b : Int)) = decide (a = b) :=
  decide_eq_decide.mpr ⟨fun e => Int.ofNat_inj.mp (V.int.inj e), fun e => by rw [e]⟩
theorem dec_nat0 {a : Nat} : decide (V.int (a : Int) = V.int 0) = decide (a = 0) := dec_nat (b := 0)
theorem MachAt.hd_get {Z : Cs} {A : MA} {m : M} {H : Hp} (T : MachAt Z H A m) {i : Nat} (h : i < m.hands.length) : m.hands[i]? = some (m.hd i) := by
  unfold M.hd
  rw [List.getD_eq_getElem?_getD, List.getElem?_eq_getElem h]
  rfl

theorem pure_M_marks {Z : Cs} (k : ZOk Z) (vs : List V) (H : Hp) (Q : VK) (E : XK) (h : sp_M_marks Z vs H Q E) : t_M_marks Z { nx := fun _ H' => Q .non H', rt := Q } (start ["self", "hand"] vs) H := by
  obtain ⟨A, m, rfl, T, hn, q⟩ := h
  unfold t_M_marks
  refine e_lcL (em_hands k T (ev_var rfl)) (SqL.of T.handsLL) (fun D i H' => Same H H' ∧ H' D = some (.lst ((((m.hands.take i).map (·.mark)).filter (· != 0)).map natV)))
    (fun D hD => ⟨Same.new hD, upd_same⟩) (fun D i H' _ _ p => SqL.of (T.same p.1).handsLL) (fun D i x H' hx hD p => ?_) (fun D H' hD p => ?_)
  · obtain ⟨a, ha, rfl⟩ := map_get hx
    have T' := T.same p.1
    obtain ⟨sv, O, S⟩ := T'.handO ha
    have hi := T'.len ha
    have eq := T'.hd_get hi
    refine ⟨rfl, ?_⟩
    refine et_test (ev_ne (eh_mark k O (ev_var rfl)) ev_c rfl) _ ?_
    rw [dec_nat0]
    by_cases e : (m.hd i).mark = 0
    · rw [decide_eq_true e]
      refine iteF ⟨p.1, ?_⟩
      rw [p.2, take_snoc eq, List.map_append, List.filter_append]
      simp [e]
    · rw [decide_eq_false e]
      refine iteT (eh_mark k O (ev_var rfl) _ ⟨_, p.2, ?_, same_newer p.1 hD, ?_⟩)
      · rw [List.length_map]
        refine Nat.lt_of_le_of_lt (List.length_filter_le _ _) ?_
        rw [List.length_map, List.length_take]
        exact Nat.lt_of_le_of_lt (Nat.min_le_left _ _) (Nat.lt_of_lt_of_le (Nat.lt_of_lt_of_le hi hn) (by decide))
      · rw [upd_same, take_snoc eq, List.map_append, List.filter_append]
        simp [e]
  · refine q D H' hD p.1 ?_
    rw [p.2, List.length_map, T.hs, List.take_length]
    rfl

def Rule.word : Rule → Str
  | .counts _ => "counts"
  | .marks _ => "marks"
  | .keeps => "keeps"
theorem ruleW (H : Hp) (a : Addr) (r : Rule) (h : RuleAt H a r) : ∃ xs, H a = some (.tup xs) ∧ atI xs 0 = some (.str r.word) := by
  cases r with
  | counts n => exact ⟨_, h, atI_nat (j := 0) rfl⟩
  | marks hs =>
    obtain ⟨t, h, _⟩ := h
    exact ⟨_, h, atI_nat (j := 0) rfl⟩
  | keeps => exact ⟨_, h, atI_nat (j := 0) rfl⟩
theorem pure_M_taken {Z : Cs} (k : ZOk Z) (vs : List V) (H : Hp) (Q : VK) (E : XK) (h : sp_M_taken Z vs H Q E) : t_M_taken Z { nx := fun _ H' => Q .non H', rt := Q } (start ["self", "value", "cell"] vs) H := by
  obtain ⟨A, m, v, rfl, T, hn, hw, hll, hf, hfr, q⟩ := h
  unfold t_M_taken
  walk_at "q"
  have wr := fun H' (c : Same H H') => ruleW H' A.rule m.rule (T.same c).rule
  refine s_forLN (xs := m.freed.map natV) (fun l i s' H' => (∃ w, s' = [some (.ref A.p), some (.int v), w]) ∧ Same H H' ∧ H' l = some (.lst (m.freed.map natV)) ∧ ∀ j c, j < i → m.freed[j]? = some c → m.rule = .keeps ∨ m.marked.contains c = true)
    (fun R hR => e_listOf (em_freed k T (ev_var rfl)) (.inl (SqL.of T.freedL)) fun l hl => hR l _ hl (Same.new hl) upd_same)
    (fun l H' hl c hL => ⟨⟨none, rfl⟩, c, hL, fun j c hj => by omega⟩) (fun l i s' H' _ _ p => SqL.of p.2.2.1) ?_ ?_
  · rintro l i x s' H' hx hl ⟨⟨w, rfl⟩, c, hL, hr⟩
    obtain ⟨cell, hc, rfl⟩ := map_get hx
    have T' := T.same c
    obtain ⟨xs, hR, hat⟩ := wr H' c
    show tIfS _ _ _ _ _ _
    by_cases ek : m.rule = .keeps
    · refine s_ifF ?_ ?_
      · refine et_is (et_and (et_test (ev_ne (ev_ixT (em_rule k T' (ev_var rfl)) ev_c (SqT.of hR) hat) ev_c rfl)) (b := true) fun e => ?_) ?_
        · rw [ek] at e
          exact absurd e (by decide +kernel)
        · rw [ek]
          decide +kernel
      · exact ⟨⟨_, rfl⟩, c, hL, fun j d hj hd => .inl ek⟩
    · refine s_if_of ?_
      refine (et_test (b := true) (ev_is (ev_ne (ev_ixT (em_rule k T' (ev_var rfl)) ev_c (SqT.of hR) hat) ev_c rfl) ?_)) _ ?_
      · cases er : m.rule with
        | counts n => exact (by decide +kernel : (V.bl !decide (V.str "counts" = V.str "keeps")) = V.bl true)
        | marks hs => exact (by decide +kernel : (V.bl !decide (V.str "marks" = V.str "keeps")) = V.bl true)
        | keeps => exact absurd er ek
      refine iteT ?_
      refine t_test_of (t_op_of (ev_var rfl _ ?_))
      refine s_meth (ev_var rfl) T'.obj (mf_no _ _ _ (by simp)) ea_nil ⟨A, m, rfl, T', hn, fun l2 H2 hl2 c2 hL2 => ?_⟩
      refine ⟨l2, _, rfl, .inl (SqL.of hL2), rfl, flat_nat _, ⟨_, rfl, ?_⟩⟩
      have hi : i < m.freed.length := (List.getElem?_eq_some_iff.mp hc).1
      rw [inV_nat]
      cases em : m.marked.contains cell with
      | true =>
        refine iteF ⟨⟨_, rfl⟩, fun b o e => c2 b o (c b o e), c2 _ _ hL, fun j d hj hd => ?_⟩
        by_cases ej : j < i
        · exact hr j d ej hd
        · have e : j = i := by omega
          subst e
          rw [hc] at hd
          cases hd
          exact .inr em
      | false =>
        refine iteT ?_
        have c12 : Same H H2 := fun b o e => c2 b o (c b o e)
        have T2 := T.same c12
        have hfi : ∀ (j : Nat) (d : Nat), j < i → m.freed[j]? = some d → (!m.marked.contains d) = false := fun j d hj hd => by
          rcases hr j d hj hd with z | z
          · exact absurd z ek
          · rw [z]
            rfl
        have hpick : pick m.rule m.marked m.freed = some cell := by
          unfold pick
          rw [if_neg ek]
          exact find_at hc (by rw [em]; rfl) hfi
        have hne : ∀ j, j < i → m.freed[j]? ≠ some cell := fun j hj q => by
          have := hfi j cell hj q
          rw [em] at this
          cases this
        obtain ⟨c1, c2'⟩ := hfr cell (List.mem_of_getElem? hc)
        have et : m.taken v = (cell, { m with freed := m.freed.erase cell, worths := m.worths.set (cell - 1) v }) := by unfold M.taken; rw [hpick]
        rw [et] at q
        walk_at "q"
        have L2 := T2.freedL
        rw [natV_int] at L2
        refine s_drop' (em_freed k T2 (ev_var rfl) _ ⟨.inl ⟨rfl, _, SqL.of L2⟩, ev_var rfl _ ⟨A.freed, _, cell, i, rfl, rfl, L2, by rw [List.getElem?_map, hc] <;> rfl, fun j hj e => ?_, ?_⟩⟩)
        · obtain ⟨d, hd, e2⟩ : ∃ d, m.freed[j]? = some d ∧ (cell : Int) = (d : Int) := by
            rw [List.getElem?_map] at e
            cases e3 : m.freed[j]? with
            | none => rw [e3] at e; cases e
            | some d => rw [e3] at e; exact ⟨d, rfl, (Option.some.inj e).symm⟩
          exact hne j hj (by rw [hd, Int.ofNat_inj.mp e2])
        have ee : ((m.freed.map Int.ofNat).eraseIdx i).map V.int = (m.freed.erase cell).map natV := by
          rw [← erase_at hc hne, natV_int, eraseIdx_map']
        rw [ee]
        obtain ⟨T3, C3⟩ := T2.setFreed (m.freed.erase cell)
        walk_at "q"
        refine s_setL (j := cell - 1) (ev_var rfl) (em_worths k T3 (ev_var rfl)) (ev_sub (ev_var rfl) ev_c) T3.worthsL (by rw [List.length_map]; exact ixN_pred c1 c2') ?_
        have ew : (List.map V.int { m with freed := m.freed.erase cell }.worths).set (cell - 1) (.int v) = (m.worths.set (cell - 1) v).map V.int := by rw [List.map_set]
        obtain ⟨T4, C4⟩ := T3.setWorths (m.worths.set (cell - 1) v)
        dsimp only at ew ⊢
        rw [ew]
        exact s_ret (ev_var rfl) (q _ T4 (((Chg.same c12).trans C3).trans C4))
  · rintro l s' H' hl ⟨⟨w, rfl⟩, c, hL, hr⟩
    have T' := T.same c
    rw [List.length_map] at hr
    have hpick : pick m.rule m.marked m.freed = none := by
      unfold pick
      by_cases ek : m.rule = .keeps
      · rw [if_pos ek]
      · rw [if_neg ek]
        refine find_none' fun j d hd => ?_
        rcases hr j d (List.getElem?_eq_some_iff.mp hd).1 hd with z | z
        · exact absurd z ek
        · rw [z]
          rfl
    have et : m.taken v = (m.worths.length + 1, { m with worths := m.worths ++ [v], links := m.links ++ [0] }) := by unfold M.taken; rw [hpick]
    rw [et] at q
    walk_at "q"
    refine s_app (em_worths k T' (ev_var rfl)) T'.worthsL (ev_var rfl) (by rw [List.length_map]; exact Nat.lt_of_lt_of_le hw (by decide)) ?_
    have e1 : List.map V.int m.worths ++ [V.int v] = (m.worths ++ [v]).map V.int := by rw [List.map_append]; rfl
    rw [e1]
    obtain ⟨T2, C2⟩ := T'.setWorths (m.worths ++ [v])
    walk_at "q"
    refine s_app (em_links k T2 (ev_var rfl)) T2.linksL ev_c (by rw [List.length_map]; exact Nat.lt_of_lt_of_le hll (by decide)) ?_
    have e2 : List.map natV { m with worths := m.worths ++ [v] }.links ++ [V.int 0] = (m.links ++ [0]).map natV := by rw [List.map_append]; rfl
    rw [e2]
    obtain ⟨T3, C3⟩ := T2.setLinks (m.links ++ [0])
    dsimp only
    refine s_ret (ev_is (ev_lenL (em_worths k T3 (ev_var rfl)) (SqL.of T3.worthsL)) ?_) (q _ T3 (((Chg.same c).trans C2).trans C3))
    simp
end SS

set_option Elab.async false
set_option linter.all false
set_option maxRecDepth 100000
set_option maxHeartbeats 4000000
namespace SS
open PySem L2
local macro_rules | `(tactic| walk_at "q") => `(tactic| ((try dsimp only); refine s_seq ?_))

theorem named_marks {m : M} {h : Nat} {hs : List Nat} (e : m.rule = .marks hs) : m.rule.named h = hs.contains h := by rw [e]; rfl
/-- self.rule[0] == "marks" and hand in self.rule[1] and not one.looked -/
theorem ev_named {Z : Cs} {A : MA} {m : M} {H : Hp} {h : Nat} {a : HA} {sv : V} {x : Hd} {s : L2.St} {n : Nat} (k : ZOk Z) (T : MachAt Z H A m) (O : HandO Z H a sv x) (h0 : s[0]? = some (some (.ref A.p))) (h1 : s[1]? = some (some (.int h))) (h2 : s[n]? = some (some (.ref a.h))) :
    EvT (tAnd (tTest (tOp rEq (tOp (rIxT Z.K) (tFld Z.K (tVar 0) "rule") (tC (.int 0))) (tC (.str "marks")))) (tAnd (tTest (tOp (rIn Z.K false) (tVar 1) (tOp (rIxT Z.K) (tFld Z.K (tVar 0) "rule") (tC (.int 1))))) (tNot (tB (tFld Z.K (tVar n) "looked")))))
      s H (decide (m.rule.named h = true ∧ x.looked = false)) := by
  cases er : m.rule with
  | counts c =>
    have R : H A.rule = some (.tup [.str "counts", .int c]) := by
      have := T.rule
      rw [er] at this
      exact this
    refine et_is (et_and (b := true) (et_test (ev_eq (ev_ixT (em_rule k T (ev_var h0)) ev_c (SqT.of R) (atI_nat (j := 0) rfl)) ev_c rfl)) fun e => ?_) ?_
    · exact absurd e (by decide +kernel)
    · have n : decide (V.str "counts" = V.str "marks") = false := by decide +kernel
      rw [n]
      simp [Rule.named]
  | keeps =>
    have R : H A.rule = some (.tup [.str "keeps"]) := by
      have := T.rule
      rw [er] at this
      exact this
    refine et_is (et_and (b := true) (et_test (ev_eq (ev_ixT (em_rule k T (ev_var h0)) ev_c (SqT.of R) (atI_nat (j := 0) rfl)) ev_c rfl)) fun e => ?_) ?_
    · exact absurd e (by decide +kernel)
    · have n : decide (V.str "keeps" = V.str "marks") = false := by decide +kernel
      rw [n]
      simp [Rule.named]
  | marks hs =>
    have R : ∃ t, H A.rule = some (.tup [.str "marks", .ref t]) ∧ H t = some (.tup (hs.map natV)) := by
      have := T.rule
      rw [er] at this
      exact this
    obtain ⟨t, R, R2⟩ := R
    refine et_is (et_and (et_test (ev_eq (ev_ixT (em_rule k T (ev_var h0)) ev_c (SqT.of R) (atI_nat (j := 0) rfl)) ev_c rfl)) fun e =>
      et_and (et_test (ev_inT (ev_var h1) (ev_ixT (em_rule k T (ev_var h0)) ev_c (SqT.of R) (atI_nat (j := 1) rfl)) (SqT.of R2) rfl (flat_nat _))) fun _ => et_not (et_B (eh_looked k O (ev_var h2)))) ?_
    have e1 : decide (V.str "marks" = V.str "marks") = true := decide_eq_true rfl
    rw [e1]
    have e2 : inV (V.int (h : Int)) (hs.map natV) = hs.contains h := inV_nat (c := h)
    rw [Bool.true_and, if_neg Bool.false_ne_true, e2]
    show (hs.contains h && !x.looked) = decide ((Rule.marks hs).named h = true ∧ x.looked = false)
    rw [Bool.decide_and, Bool.decide_eq_true]
    show (hs.contains h && !x.looked) = (hs.contains h && _)
    cases x.looked <;> simp
theorem pure_M_pop {Z : Cs} (k : ZOk Z) (vs : List V) (H : Hp) (Q : VK) (E : XK) (h : sp_M_pop Z vs H Q E) : t_M_pop Z { nx := fun _ H' => Q .non H', rt := Q } (start ["self", "hand", "one", "cell", "follow"] vs) H := by
  obtain ⟨A, m, h, t, kk, a, rfl, T, ha, hseen, ⟨ht1, ht2⟩, hcw, hs, hz, hf, oc, q⟩ := h
  obtain ⟨sv, O, S⟩ := T.handO ha
  unfold t_M_pop
  walk_at "q"
  refine s_asg (em_hand k T ha (ev_var rfl) (ev_var rfl)) ?_
  walk_at "q"
  refine s_if (et_test (ev_ne (eh_cell k O (ev_var rfl)) ev_c rfl)) (fun e => ?_) (fun e => ?_)
  · have e1 : (m.hd h).cell ≠ 0 := fun z => by
      rw [z] at e
      exact absurd e (by decide)
    have ep : m.pop h t = (.ends (.val (m.worths.getD ((m.hd h).cell - 1) 0)), { m with freed := m.freed ++ [(m.hd h).cell] }.endedH h (.val (m.worths.getD ((m.hd h).cell - 1) 0))) := by unfold M.pop; rw [if_pos e1]
    rw [ep] at q
    walk_at "q"
    refine s_app (em_freed k T (ev_var rfl)) T.freedL (eh_cell k O (ev_var rfl)) (by rw [List.length_map]; exact Nat.lt_of_lt_of_le hf (by decide)) ?_
    have e2 : List.map natV m.freed ++ [V.int (m.hd h).cell] = (m.freed ++ [(m.hd h).cell]).map natV := by rw [List.map_append]; rfl
    rw [e2]
    obtain ⟨T1, C1⟩ := T.setFreed (m.freed ++ [(m.hd h).cell])
    obtain ⟨sv1, O1, S1⟩ := T1.handO ha
    dsimp only
    have hv : (m.worths.map V.int)[(m.hd h).cell - 1]? = some (ansV (.val (m.worths.getD ((m.hd h).cell - 1) 0))) := by
      rw [List.getElem?_map, List.getD_eq_getElem?_getD, List.getElem?_eq_getElem (by omega)]
      rfl
    refine s_meth (ev_var rfl) T1.obj (mf_no _ _ _ (by simp)) (ea_cons (ev_var rfl) (ea_cons (ev_ixL (em_worths k T1 (ev_var rfl)) (ev_sub (eh_cell k O1 (ev_var rfl)) ev_c) (SqL.of T1.worthsL) (atI_pred (by show 1 ≤ (m.hd h).cell; omega) hv)) ea_nil)) ⟨A, _, h, a, _, rfl, T1, ha, hs, fun H2 v T2 C2 W => ?_⟩
    exact q H2 v T2 (C1.trans C2) W
  have e1 : (m.hd h).cell = 0 := by
    have := e
    simp only [Bool.not_eq_false', decide_eq_true_eq] at this
    exact Int.ofNat_inj.mp (V.int.inj this)
  dsimp only [tNext]
  have S' := S
  rw [hseen] at S'
  obtain ⟨p, rfl, hp⟩ := S'
  walk_at "q"
  refine s_asg (ev_ixT (eh_seen k O (ev_var rfl)) ev_c (SqT.of hp) (atI_nat (j := 0) rfl)) ?_
  walk_at "q"
  refine s_if (ev_named k T O rfl rfl rfl) (fun e => ?_) (fun e => ?_)
  · have e2 := of_decide_eq_true e
    have ep : m.pop h t = m.guard h t := by
      unfold M.pop
      rw [if_neg (by omega), if_pos e2]
    rw [ep] at q
    dsimp only
    refine s_meth (ev_var rfl) T.obj (mf_no _ _ _ (by simp)) (ea_cons (ev_var rfl) (ea_cons (ev_var rfl) ea_nil)) ⟨A, m, h, t, a, rfl, T, ha, q⟩
  have e2 := of_decide_eq_false e
  dsimp only [tNext]
  have hlk : (m.links.map natV)[t - 1]? = some (natV (m.links.getD (t - 1) 0)) := by
    rw [List.getElem?_map, List.getD_eq_getElem?_getD, List.getElem?_eq_getElem (by omega)]
    rfl
  walk_at "q"
  cases ef : (m.hd h).follow with
  | none =>
    have ep : m.pop h t = (.follows (m.links.getD (t - 1) 0), m.setH h { m.hd h with follow := some (m.links.getD (t - 1) 0) }) := by
      unfold M.pop
      rw [if_neg (by omega), if_neg e2, ef]
    rw [ep] at q
    refine s_ifT (et_is (et_test (ev_isN (eh_follow k O (ev_var rfl)))) (by rw [optV_non, ef]; rfl)) ?_
    rw [← M.setH_self (m := m) (h := h)] at T
    walk_at "q"
    refine sh_follow (o := some (m.links.getD (t - 1) 0)) k T ha O S (ev_ixL (em_links k T (ev_var rfl)) (ev_sub (ev_var rfl) ev_c) (SqL.of T.linksL) (atI_pred ht1 hlk)) (ev_var rfl) fun H1 T1 C1 O1 => ?_
    dsimp only
    exact s_tell (w := .follows (m.links.getD (t - 1) 0)) T1 C1 (ea_cons ev_c (ea_cons (eh_follow k O1 (ev_var rfl)) ea_nil)) q
  | some f =>
    refine s_ifF (et_is (et_test (ev_isN (eh_follow k O (ev_var rfl)))) (by rw [optV_non, ef]; rfl)) ?_
    dsimp only [tNext]
    walk_at "q"
    refine s_asg (ev_is (eh_follow k O (ev_var rfl)) (show _ = V.int f by rw [ef]; rfl)) ?_
    walk_at "q"
    refine s_if_of ?_
    show tMeth _ _ _ _ _ _ _ _ _ _
    refine s_meth (ev_var rfl) T.obj (mf_no _ _ _ (by simp)) (ea_cons (ev_var rfl) (ea_cons (ev_var rfl) ea_nil)) ⟨A, m, h, f, a, rfl, T, ha, hz, oc, fun H1 T1 C1 => ?_⟩
    refine ⟨_, rfl, ?_⟩
    cases e : m.fits h with
    | false =>
      have ex : m.exch h f = (false, m.setH h (m.hd h).forgot) := by unfold M.exch; rw [e]; rfl
      have ep : m.pop h t = (.misses, m.setH h (m.hd h).forgot) := by
        unfold M.pop
        rw [if_neg (by omega), if_neg e2, ef, e]
        rfl
      rw [ex] at T1 ⊢
      rw [ep] at q
      refine iteT ?_
      dsimp only
      exact s_tell (w := .misses) T1 C1 (ea_cons ev_c ea_nil) q
    | true =>
      have ex : m.exch h f = (true, m.exchd h f) := by unfold M.exch; rw [e]; rfl
      have ep : m.pop h t = (.exchanges f, { m.exchd h f with strayed := m.strayed || m.links.getD (t - 1) 0 != f }.setH h { m.hd h with cell := t }) := by
        unfold M.pop
        rw [if_neg (by omega), if_neg e2, ef, e]
        rfl
      rw [ex] at T1 ⊢
      rw [ep] at q
      refine iteF ?_
      dsimp only [tNext]
      walk_at "q"
      have hne : Ev (tOp (rNeD Z.K) (tOp (rIxL Z.K) (tFld Z.K (tVar 0) "links") (tOp rSubI (tVar 3) (tC (.int 1)))) (tVar 4)) ((((start ["self", "hand", "one", "cell", "follow"] [V.ref A.p, V.int h]).set 2 (some (V.ref a.h))).set 3 (some (V.int t))).set 4 (some (V.int f))) H1 (.bl (m.links.getD (t - 1) 0 != f)) := by
        refine ev_is (ev_neD (ev_ixL (em_links k T1 (ev_var rfl)) (ev_sub (ev_var rfl) ev_c) (SqL.of T1.linksL) (atI_pred ht1 hlk)) (ev_var rfl) (.int _) (.int _) rfl rfl) ?_
        show V.bl (!((m.links.getD (t - 1) 0 : Nat) : Int) == (f : Int)) = _
        congr 1
        show _ = !(m.links.getD (t - 1) 0 == f)
        congr 1
        rw [Bool.beq_eq_decide_eq, Bool.beq_eq_decide_eq]
        exact decide_eq_decide.mpr Int.ofNat_inj
      refine sm_strayed (t := m.strayed || m.links.getD (t - 1) 0 != f) k T1 (ev_orV (ev_is (em_strayed k T1 (ev_var rfl)) rfl) fun _ => hne) (ev_var rfl) fun H2 T2 C2 K2 => ?_
      walk_at "q"
      have T2' : MachAt Z H2 A ({ m.exchd h f with strayed := m.strayed || m.links.getD (t - 1) 0 != f }.setH h (m.hd h)) := by
        have z : { m.exchd h f with strayed := m.strayed || m.links.getD (t - 1) 0 != f }.setH h (m.hd h) = { m.exchd h f with strayed := m.strayed || m.links.getD (t - 1) 0 != f } := M.setH_self (m := { m.exchd h f with strayed := m.strayed || m.links.getD (t - 1) 0 != f }) (h := h)
        rw [z]
        exact T2
      obtain ⟨sv2, O2, S2⟩ := T2'.hO ha
      refine sh_cell (n := t) k T2' ha O2 S2 (ev_var rfl) (ev_var rfl) fun H3 T3 C3 O3 => ?_
      dsimp only
      exact s_tell (w := .exchanges f) T3 ((C1.trans C2).trans C3) (ea_cons ev_c (ea_cons (ev_var rfl) ea_nil)) q
end SS

set_option Elab.async false
set_option linter.all false
set_option maxRecDepth 100000
set_option maxHeartbeats 4000000
namespace SS
open PySem L2
local macro_rules | `(tactic| walk_at "q") => `(tactic| ((try dsimp only); refine s_seq ?_))

theorem ev_word {Z : Cs} {H : Hp} {s : L2.St} {n : Nat} {q : Addr} {d : Deed} (h : s[n]? = some (some (.ref q))) (hq : H q = some (.tup (deedVs d))) :
    Ev (tOp (rIxT Z.K) (tVar n) (tC (.int 0))) s H (.str (match d with | .pop => "pop" | .push _ => "push")) := by
  cases d with
  | pop => exact ev_ixT (ev_var h) ev_c (SqT.of hq) (atI_nat (j := 0) rfl)
  | push v => exact ev_ixT (ev_var h) ev_c (SqT.of hq) (atI_nat (j := 0) rfl)
theorem pure_M_turn {Z : Cs} (k : ZOk Z) (vs : List V) (H : Hp) (Q : VK) (E : XK) (h : sp_M_turn Z vs H Q E) : t_M_turn Z { nx := fun _ H' => Q .non H', rt := Q } (start ["self", "hand", "one", "deed"] vs) H := by
  obtain ⟨A, m, h, rfl, T, W, hl, q⟩ := h
  obtain ⟨a, ha⟩ := T.hand_of hl
  obtain ⟨sv, O, S⟩ := T.handO ha
  unfold t_M_turn
  walk_at "q"
  refine s_meth (ev_var rfl) T.obj (mf_no _ _ _ (by simp)) (ea_cons (ev_var rfl) ea_nil) ⟨A, m, h, a, rfl, T, ha, ?_⟩
  show ({ nx := _, rt := Q : Ends }).nx _ _
  walk_at "q"
  refine s_if_of (t_B_of (s_meth (ev_var rfl) T.obj (mf_no _ _ _ (by simp)) (ea_cons (ev_var rfl) ea_nil) ⟨A, m, h, a, rfl, T, ha, ⟨_, rfl, ?_⟩⟩))
  cases er : m.rests h with
  | true =>
    have ep : (m.prog h)[(m.hd h).at_]? = none := by
      unfold M.rests at er
      have : (m.hd h).at_ = (m.prog h).length := eq_of_beq er
      rw [this]
      exact List.getElem?_eq_none (Nat.le_refl _)
    have et : m.turn h = (.rests, m) := by unfold M.turn; rw [ep]
    rw [et] at q
    refine iteT ?_
    dsimp only
    exact s_ret_of (e_tup (ea_cons ev_c ea_nil) (by show 1 ≤ 1000; decide) fun p hp => q _ _ (T.new hp) (Chg.same (Same.new hp)) ⟨p, rfl, upd_same⟩ fun _ => Same.new hp)
  | false =>
    have q : ∀ H' v, MachAt Z H' A (m.turn h).2 → Chg A.owns H H' → TellAt H' v (m.turn h).1 → Q v H' := fun H' v a b c => q H' v a b c fun z => by
      rw [er] at z
      cases z
    refine iteF ?_
    dsimp only [tNext]
    have hat : (m.hd h).at_ < (m.prog h).length := by
      have := W.at_ h
      unfold M.rests at er
      have : (m.hd h).at_ ≠ (m.prog h).length := by simpa using er
      omega
    obtain ⟨d, hd⟩ : ∃ d, (m.prog h)[(m.hd h).at_]? = some d := ⟨_, List.getElem?_eq_getElem hat⟩
    obtain ⟨us, p, P, hp, hq⟩ := T.deed ha hd
    walk_at "q"
    refine s_asg (ev_ixL (eh_program k O (ev_var rfl)) (eh_at k O (ev_var rfl)) (SqL.of P) hp) ?_
    walk_at "q"
    have n1 : decide (V.str "pop" = V.str "push") = false := by decide +kernel
    have n2 : decide (V.str "push" = V.str "push") = true := decide_eq_true rfl
    cases d with
    | pop =>
      refine s_ifF (et_is (et_and (b := true) (et_test (ev_eq (ev_word rfl hq) ev_c rfl)) fun e => absurd (n1.symm.trans e) Bool.false_ne_true) (by rw [n1]; rfl)) ?_
      dsimp only [tNext]
      walk_at "q"
      cases es : (m.hd h).seen with
      | none =>
        have et : m.turn h = m.read h .pop := by unfold M.turn; rw [hd, es]
        rw [et] at q
        have ev : sv = .non := by
          rw [es] at S
          exact S
        refine s_ifT (et_is (et_test (ev_isN (eh_seen k O (ev_var rfl)))) (by rw [ev]; rfl)) ?_
        dsimp only
        exact s_meth (ev_var rfl) T.obj (mf_no _ _ _ (by simp)) (ea_cons (ev_var rfl) ea_nil) ⟨A, m, h, a, .pop, rfl, T, ha, hd, W.sl h, W.el, q⟩
      | some z =>
        obtain ⟨t, kk⟩ := z
        have et : m.turn h = m.pop h t := by unfold M.turn; rw [hd, es]
        rw [et] at q
        have ev : sv ≠ .non := by
          rw [es] at S
          obtain ⟨y, e, _⟩ := S
          rw [e]
          intro z
          cases z
        refine s_ifF (et_is (et_test (ev_isN (eh_seen k O (ev_var rfl)))) (decide_eq_false ev)) ?_
        dsimp only [tNext]
        walk_at "q"
        refine s_ifF (et_is (et_test (ev_eq (ev_word rfl hq) ev_c rfl)) n1) ?_
        dsimp only [tNext]
        obtain ⟨p1, p2⟩ := W.popC h _ hd es
        exact s_meth (ev_var rfl) T.obj (mf_no _ _ _ (by simp)) (ea_cons (ev_var rfl) ea_nil) ⟨A, m, h, t, kk, a, rfl, T, ha, es, ⟨p1, by rw [W.ll]; exact p2⟩, W.cell h, W.sl h, W.el, W.fl, W.count, q⟩
    | push v =>
      by_cases ec : (m.hd h).cell = 0
      · refine s_ifT (et_is (et_and (et_test (ev_eq (ev_word rfl hq) ev_c rfl)) fun _ => et_test (ev_eq (eh_cell k O (ev_var rfl)) ev_c rfl)) (by
          have n3 : decide (V.int ((m.hd h).cell : Int) = V.int 0) = true := by rw [ec]; rfl
          rw [n3]
          rfl)) ?_
        have et : m.turn h = (.takes (m.taken v).1, (m.taken v).2.setH h { m.hd h with cell := (m.taken v).1 }) := by unfold M.turn; rw [hd]; exact if_pos ec
        rw [et] at q
        walk_at "q"
        show tMeth _ _ _ _ _ _ _ _ _ _
        refine s_meth (ev_var rfl) T.obj (mf_no _ _ _ (by simp)) (ea_cons (ev_ixT (ev_var rfl) ev_c (SqT.of hq) (atI_nat (j := 1) rfl)) ea_nil) ⟨A, m, v, rfl, T, W.hn, W.wl, by rw [W.ll]; exact W.wl, Nat.le_of_lt W.fl, W.fr, fun H1 T1 C1 => ?_⟩
        show sFld Z.K (tVar 2) (tC (.int (m.taken v).1)) "cell" _ _ _
        have eh : (m.taken v).2.hd h = m.hd h := by
          unfold M.taken
          cases pick m.rule m.marked m.freed <;> rfl
        rw [← M.setH_self (m := (m.taken v).2) (h := h), eh] at T1
        obtain ⟨sv1, O1, S1⟩ := T1.hO ha
        refine sh_cell (n := (m.taken v).1) k T1 ha O1 S1 ev_c (ev_var rfl) fun H2 T2 C2 O2 => ?_
        dsimp only
        exact s_tell (w := .takes (m.taken v).1) T2 (C1.trans C2) (ea_cons ev_c (ea_cons (ev_is (eh_cell k O2 (ev_var rfl)) rfl) ea_nil)) q
      · refine s_ifF (et_is (et_and (et_test (ev_eq (ev_word rfl hq) ev_c rfl)) fun _ => et_test (ev_eq (eh_cell k O (ev_var rfl)) ev_c rfl)) (by
          have n3 : decide (V.int ((m.hd h).cell : Int) = V.int 0) = false := by rw [dec_nat0]; exact decide_eq_false ec
          rw [n3, Bool.and_false])) ?_
        dsimp only [tNext]
        walk_at "q"
        cases es : (m.hd h).seen with
        | none =>
          have et : m.turn h = m.read h (.push v) := by unfold M.turn; rw [hd, es]; exact if_neg ec
          rw [et] at q
          have ev : sv = .non := by
            rw [es] at S
            exact S
          refine s_ifT (et_is (et_test (ev_isN (eh_seen k O (ev_var rfl)))) (by rw [ev]; rfl)) ?_
          dsimp only
          exact s_meth (ev_var rfl) T.obj (mf_no _ _ _ (by simp)) (ea_cons (ev_var rfl) ea_nil) ⟨A, m, h, a, .push v, rfl, T, ha, hd, W.sl h, W.el, q⟩
        | some z =>
          obtain ⟨t, kk⟩ := z
          have et : m.turn h = m.push h t := by unfold M.turn; rw [hd, es]; exact if_neg ec
          rw [et] at q
          have ev : sv ≠ .non := by
            rw [es] at S
            obtain ⟨y, e, _⟩ := S
            rw [e]
            intro z
            cases z
          refine s_ifF (et_is (et_test (ev_isN (eh_seen k O (ev_var rfl)))) (decide_eq_false ev)) ?_
          dsimp only [tNext]
          walk_at "q"
          refine s_ifT (et_is (et_test (ev_eq (ev_word rfl hq) ev_c rfl)) n2) ?_
          dsimp only
          exact s_meth (ev_var rfl) T.obj (mf_no _ _ _ (by simp)) (ea_cons (ev_var rfl) ea_nil) ⟨A, m, h, t, kk, a, rfl, T, ha, es, ⟨W.pushC h v _ hd es, by rw [W.ll]; exact W.cell h⟩, W.sl h, W.el, W.count, q⟩

/-! ### what is told as it stands -/
theorem pure_M_is_stale {Z : Cs} (k : ZOk Z) (vs : List V) (H : Hp) (Q : VK) (E : XK) (h : sp_M_is_stale Z vs H Q E) : t_M_is_stale Z { nx := fun _ H' => Q .non H', rt := Q } (start ["self"] vs) H := by
  obtain ⟨A, m, rfl, T, q⟩ := h
  exact s_ret (em_strayed k T (ev_var rfl)) q
theorem pure_M_answers {Z : Cs} (k : ZOk Z) (vs : List V) (H : Hp) (Q : VK) (E : XK) (h : sp_M_answers Z vs H Q E) : t_M_answers Z { nx := fun _ H' => Q .non H', rt := Q } (start ["self", "hand"] vs) H := by
  obtain ⟨A, m, h, a, rfl, T, ha, q⟩ := h
  obtain ⟨sv, O, S⟩ := T.handO ha
  refine s_meth (ev_var rfl) T.obj (mf_no _ _ _ (by simp)) (ea_cons (ev_var rfl) ea_nil) ⟨A, m, h, a, rfl, T, ha, ?_⟩
  exact ⟨a.h, Z.H, a.dx, _, _, rfl, O, k.clH, k.h_said, hf_said _ _ _, a.said, _, rfl, .inl (SqL.of (T.saidL ha)), q⟩
theorem pure_M_marked {Z : Cs} (k : ZOk Z) (vs : List V) (H : Hp) (Q : VK) (E : XK) (h : sp_M_marked Z vs H Q E) : t_M_marked Z { nx := fun _ H' => Q .non H', rt := Q } (start ["self", "hand"] vs) H := by
  obtain ⟨A, m, h, a, rfl, T, ha, q⟩ := h
  obtain ⟨sv, O, S⟩ := T.handO ha
  refine s_meth (ev_var rfl) T.obj (mf_no _ _ _ (by simp)) (ea_cons (ev_var rfl) ea_nil) ⟨A, m, h, a, rfl, T, ha, ?_⟩
  exact ⟨a.h, Z.H, a.dx, _, _, rfl, O, k.clH, k.h_mark, hf_mark _ _ _, q⟩
theorem pure_M_order {Z : Cs} (k : ZOk Z) (vs : List V) (H : Hp) (Q : VK) (E : XK) (h : sp_M_order Z vs H Q E) : t_M_order Z { nx := fun _ H' => Q .non H', rt := Q } (start ["self"] vs) H := by
  obtain ⟨A, m, rfl, T, q⟩ := h
  obtain ⟨us, L, hu⟩ := T.endsL
  exact e_listOf (em_ends k T (ev_var rfl)) (.inl (SqL.of L)) fun l hl => q l us hl hu
theorem pure_M_free {Z : Cs} (k : ZOk Z) (vs : List V) (H : Hp) (Q : VK) (E : XK) (h : sp_M_free Z vs H Q E) : t_M_free Z { nx := fun _ H' => Q .non H', rt := Q } (start ["self"] vs) H := by
  obtain ⟨A, m, rfl, T, q⟩ := h
  exact e_listOf (em_freed k T (ev_var rfl)) (.inl (SqL.of T.freedL)) q
theorem pure_M_nexts {Z : Cs} (k : ZOk Z) (vs : List V) (H : Hp) (Q : VK) (E : XK) (h : sp_M_nexts Z vs H Q E) : t_M_nexts Z { nx := fun _ H' => Q .non H', rt := Q } (start ["self"] vs) H := by
  obtain ⟨A, m, rfl, T, q⟩ := h
  exact e_listOf (em_links k T (ev_var rfl)) (.inl (SqL.of T.linksL)) q
theorem pure_M_top_now {Z : Cs} (k : ZOk Z) (vs : List V) (H : Hp) (Q : VK) (E : XK) (h : sp_M_top_now Z vs H Q E) : t_M_top_now Z { nx := fun _ H' => Q .non H', rt := Q } (start ["self"] vs) H := by
  obtain ⟨A, m, rfl, T, q⟩ := h
  exact e_tup (ea_cons (em_top k T (ev_var rfl)) (ea_cons (em_count k T (ev_var rfl)) ea_nil)) (by show 2 ≤ 1000; decide) q
end SS

set_option Elab.async false
set_option linter.all false
set_option maxRecDepth 100000
set_option maxHeartbeats 4000000
namespace SS
open PySem L2
local macro_rules | `(tactic| walk_at "q") => `(tactic| ((try dsimp only); refine s_seq ?_))

theorem pigeon : ∀ (L : Nat) (l : List Nat), l.Nodup → (∀ x ∈ l, 1 ≤ x ∧ x ≤ L) → l.length ≤ L
  | 0, [], _, _ => Nat.le_refl _
  | 0, a :: l, _, h => by
    have := h a List.mem_cons_self
    omega
  | L + 1, l, nd, h => by
    have ih := pigeon L (l.erase (L + 1)) (nd.erase _) fun x hx => by
      have h1 := h x (List.mem_of_mem_erase hx)
      have h2 : x ≠ L + 1 := ((nd.mem_erase_iff).mp hx).1
      omega
    rw [List.length_erase] at ih
    split at ih <;> omega
theorem pileFrom_ok (links : List Nat) (hl : ∀ c ∈ links, c ≤ links.length) : ∀ (n : Nat) (found : List Nat) (cell : Nat), (∀ x ∈ found, 1 ≤ x ∧ x ≤ links.length) → cell ≤ links.length → ∀ x ∈ M.pileFrom links n found cell, 1 ≤ x ∧ x ≤ links.length
  | 0, found, cell, hf, _ => hf
  | n + 1, found, cell, hf, hc => by
    unfold M.pileFrom
    split
    · exact hf
    · rename_i h
      refine pileFrom_ok links hl n _ _ (fun x hx => ?_) ?_
      · rcases List.mem_append.mp hx with z | z
        · exact hf x z
        · have e : x = cell := by simpa using z
          rw [e]
          omega
      · rw [List.getD_eq_getElem?_getD]
        cases e : links[cell - 1]? with
        | none => exact Nat.zero_le _
        | some c => exact hl c (List.mem_of_getElem? e)
theorem pileFrom_len (links : List Nat) : ∀ (n : Nat) (found : List Nat) (cell : Nat), (M.pileFrom links n found cell).length ≤ found.length + n
  | 0, found, cell => Nat.le_refl _
  | n + 1, found, cell => by
    unfold M.pileFrom
    split
    · omega
    · have := pileFrom_len links n (found ++ [cell]) (links.getD (cell - 1) 0)
      rw [List.length_append] at this
      simp only [List.length_singleton] at this
      omega
theorem pile_len (m : M) (ok : PileOk m) : m.pile.length ≤ 1001 := by
  have := pileFrom_len m.links (m.links.length + 1) [] m.top
  have h1 := ok.ll
  have h2 := ok.wl
  show (M.pileFrom _ _ _ _).length ≤ _
  simp only [List.length_nil] at this
  omega
theorem pure_M_pile {Z : Cs} (k : ZOk Z) (vs : List V) (H : Hp) (Q : VK) (E : XK) (h : sp_M_pile Z vs H Q E) : t_M_pile Z { nx := fun _ H' => Q .non H', rt := Q } (start ["self", "found", "cell"] vs) H := by
  obtain ⟨A, m, rfl, T, ok, q⟩ := h
  unfold t_M_pile
  walk_at "q"
  refine e_lst ea_nil (by show 0 ≤ 1000; decide) fun l hl => ?_
  have T1 := T.new (o := .lst []) hl
  show ({ nx := _, rt := Q : Ends }).nx _ _
  walk_at "q"
  refine s_asg (em_top k T1 (ev_var rfl)) ?_
  walk_at "q"
  refine s_while (fun s' H' => ∃ (found : List Nat) (cell : Nat), s' = [some (.ref A.p), some (.ref l), some (.int cell)] ∧ Same H H' ∧ H' l = some (.lst (found.map natV)) ∧ found.Nodup ∧ (∀ x ∈ found, 1 ≤ x ∧ x ≤ m.links.length) ∧ cell ≤ m.links.length ∧
      found.length ≤ m.links.length ∧ M.pileFrom m.links (m.links.length + 1 - found.length) found cell = m.pile)
    (fun s' H' => match H' l with | some (.lst xs) => m.links.length + 1 - xs.length | _ => 0)
    ⟨[], m.top, rfl, Same.new hl, upd_same, .nil, (fun x hx => by cases hx), ok.top, Nat.zero_le _, rfl⟩ ?_
  rintro s' H' ⟨found, cell, rfl, c, hL, nd, hf, hc, hlen, hp⟩
  have T' := T.same c
  have test : EvT (tAnd (tTest (tOp rNe (tVar 2) (tC (.int 0)))) (tTest (tOp (rIn Z.K true) (tVar 2) (tVar 1)))) [some (.ref A.p), some (.ref l), some (.int cell)] H' (!decide (cell = 0 ∨ cell ∈ found)) := by
    refine et_is (et_and (et_test (ev_ne (ev_var rfl) ev_c rfl)) fun _ => et_test (ev_inL (ev_var rfl) (ev_var rfl) (SqL.of hL) rfl (flat_nat _))) ?_
    rw [dec_nat0, if_pos rfl, inV_nat, Bool.decide_or, Bool.not_or, List.contains_eq_mem]
  have hn : m.links.length + 1 - found.length = (m.links.length - found.length) + 1 := by omega
  by_cases e : cell = 0 ∨ cell ∈ found
  · left
    refine ⟨et_is test (by rw [decide_eq_true e]; rfl), ?_⟩
    rw [hn, M.pileFrom, if_pos e] at hp
    dsimp only
    exact s_ret (ev_var rfl) (q l H' hl c (by rw [← hp]; exact hL))
  · right
    refine ⟨et_is test (by rw [decide_eq_false e]; rfl), ?_⟩
    rw [hn, M.pileFrom, if_neg e] at hp
    walk_at "q"
    refine s_app (ev_var rfl) hL (ev_var rfl) (by rw [List.length_map]; exact Nat.lt_of_le_of_lt (Nat.le_trans hlen (by rw [ok.ll]; exact ok.wl)) (by decide)) ?_
    have e2 : List.map natV found ++ [V.int cell] = (found ++ [cell]).map natV := by rw [List.map_append]; rfl
    rw [e2]
    have c2 : Same H (upd H' l (.lst ((found ++ [cell]).map natV))) := same_newer c hl
    have T2 := T.same c2
    have h1 : 1 ≤ cell ∧ cell ≤ m.links.length := by omega
    have nd2 : (found ++ [cell]).Nodup := by
      rw [List.nodup_append]
      refine ⟨nd, by simp, fun a ha b hb => ?_⟩
      have : b = cell := by simpa using hb
      rw [this]
      exact fun z => e (.inr (z ▸ ha))
    have hf2 : ∀ x ∈ found ++ [cell], 1 ≤ x ∧ x ≤ m.links.length := fun x hx => by
      rcases List.mem_append.mp hx with z | z
      · exact hf x z
      · have e : x = cell := by simpa using z
        rw [e]
        exact h1
    have hlen2 := pigeon _ _ nd2 hf2
    have hlk : (m.links.map natV)[cell - 1]? = some (natV (m.links.getD (cell - 1) 0)) := by
      rw [List.getElem?_map, List.getD_eq_getElem?_getD, List.getElem?_eq_getElem (by omega)]
      rfl
    dsimp only
    refine s_asg (ev_ixL (em_links k T2 (ev_var rfl)) (ev_sub (ev_var rfl) ev_c) (SqL.of T2.linksL) (atI_pred h1.1 hlk)) ?_
    refine ⟨⟨found ++ [cell], m.links.getD (cell - 1) 0, rfl, c2, upd_same, nd2, hf2, ?_, hlen2, ?_⟩, ?_⟩
    · rw [List.getD_eq_getElem?_getD, List.getElem?_eq_getElem (by omega)]
      exact ok.links _ (List.getElem_mem _)
    · rw [List.length_append]
      show M.pileFrom _ (m.links.length + 1 - (found.length + 1)) _ _ = _
      rw [show m.links.length + 1 - (found.length + 1) = m.links.length - found.length by omega]
      exact hp
    · rw [hL]
      simp only [upd_same, List.length_map, List.length_append, List.length_singleton]
      have : (found ++ [cell]).length = found.length + 1 := by simp
      omega
theorem pure_M_pile_values {Z : Cs} (k : ZOk Z) (vs : List V) (H : Hp) (Q : VK) (E : XK) (h : sp_M_pile_values Z vs H Q E) : t_M_pile_values Z { nx := fun _ H' => Q .non H', rt := Q } (start ["self", "cell"] vs) H := by
  obtain ⟨A, m, rfl, T, ok, q⟩ := h
  unfold t_M_pile_values
  show tMeth _ _ _ _ _ _ _ _ _ _
  refine s_meth (ev_var rfl) T.obj (mf_no _ _ _ (by simp)) ea_nil ⟨A, m, rfl, T, ok, fun l H1 hl c hL => ?_⟩
  refine e_lcL (tl := tC (.ref l)) (H := H1) ev_c (SqL.of hL) (fun D i H' => Same H1 H' ∧ H' D = some (.lst (((m.pile.take i).map fun c => m.worths.getD (c - 1) 0).map V.int)))
    (fun D hD => ⟨Same.new hD, upd_same⟩) (fun D i H' _ _ p => SqL.of (p.1 _ _ hL)) (fun D i x H' hx hD p => ?_) (fun D H' hD p => ?_)
  · obtain ⟨cell, hc, rfl⟩ := map_get hx
    have T' := (T.same c).same p.1
    have hb := pileFrom_ok m.links ok.links (m.links.length + 1) [] m.top (fun x hx => by cases hx) ok.top cell (List.mem_of_getElem? hc)
    have hw : (m.worths.map V.int)[cell - 1]? = some (.int (m.worths.getD (cell - 1) 0)) := by
      have := ok.ll
      rw [List.getElem?_map, List.getD_eq_getElem?_getD, List.getElem?_eq_getElem (by omega)]
      rfl
    refine ⟨rfl, et_yes _ (iteT (ev_ixL (em_worths k T' (ev_var rfl)) (ev_sub (ev_var rfl) ev_c) (SqL.of T'.worthsL) (atI_pred hb.1 hw) _ ⟨_, p.2, ?_, same_newer p.1 hD, ?_⟩))⟩
    · rw [List.length_map, List.length_map, List.length_take]
      have hi := (List.getElem?_eq_some_iff.mp hc).1
      have hpl : m.pile.length ≤ 1001 := pile_len m ok
      exact Nat.lt_of_le_of_lt (Nat.le_trans (Nat.min_le_right _ _) hpl) (by decide)
    · rw [upd_same, take_snoc hc, List.map_append, List.map_append]
      rfl
  · have c2 : Same H H' := fun b o e => p.1 b o (c b o e)
    refine q D H' ?_ c2 ?_
    · cases e : H D with
      | none => rfl
      | some o =>
        have := c D o e
        rw [hD] at this
        cases this
    · rw [p.2, List.length_map, List.take_length]
      rfl
end SS

set_option Elab.async false
set_option linter.all false
set_option maxRecDepth 100000
set_option maxHeartbeats 4000000
namespace SS
open PySem L2
local macro_rules | `(tactic| walk_at "q") => `(tactic| ((try dsimp only); refine s_seq ?_))

/-! ### data of ints -/
theorem shaped_ints (l : List Int) : SeqAt.shaped (.list (l.map PyData.int)) = true := by
  have h1 : ∀ l : List Int, PyData.canLayAll0 (l.map PyData.int) = true := by
    intro l
    induction l with
    | nil => rfl
    | cons a l ih => simp [PyData.canLayAll0, PyData.canLay0, ih]
  have h2 : ∀ l : List Int, PyData.depthAll (l.map PyData.int) = 0 := by
    intro l
    induction l with
    | nil => rfl
    | cons a l ih => simp [PyData.depthAll, PyData.depth, ih]
  simp [SeqAt.shaped, PyData.canLay0, PyData.depth, h1, h2]
theorem dp_ints {K : PySem.W.Frag} {H : Hp} : ∀ l : List Int, DpAll K H (l.map V.int) (l.map PyData.int)
  | [] => .nil
  | a :: l => .cons (.int a) (dp_ints l)
theorem filter_snoc {p : Nat → Bool} (i : Nat) : (List.range (i + 1)).filter p = (List.range i).filter p ++ (if p i then [i] else []) := by
  rw [List.range_succ, List.filter_append]
  congr 1
  cases h : p i <;> simp [h]
theorem pure_M_is_done {Z : Cs} (k : ZOk Z) (vs : List V) (H : Hp) (Q : VK) (E : XK) (h : sp_M_is_done Z vs H Q E) : t_M_is_done Z { nx := fun _ H' => Q .non H', rt := Q } (start ["self", "hand"] vs) H := by
  obtain ⟨A, m, rfl, T, hn, q⟩ := h
  unfold t_M_is_done
  refine s_ret_of (t_op_of ?_)
  refine e_lcR (n := m.hands.length) (ev_is (ev_lenL (em_hands k T (ev_var rfl)) (SqL.of T.handsLL)) (by rw [List.length_map, T.hs])) (by omega)
    (fun D i H' => Same H H' ∧ H' D = some (.lst (((List.range i).filter fun h => !m.rests h).map natV))) (fun D hD => ⟨Same.new hD, upd_same⟩) (fun D i H' hi hD p => ?_) (fun D H' hD p => ?_)
  · obtain ⟨a, ha⟩ := T.hand_of hi
    have T' := T.same p.1
    refine ⟨rfl, ?_⟩
    show tMeth _ _ _ _ _ _ _ _ _ _
    refine s_meth (ev_var rfl) T'.obj (mf_no _ _ _ (by simp)) (ea_cons (ev_var rfl) ea_nil) ⟨A, m, i, a, rfl, T', ha, ⟨_, rfl, ?_⟩⟩
    cases e : m.rests i with
    | true =>
      refine iteF ⟨p.1, ?_⟩
      rw [p.2, filter_snoc, e]
      simp
    | false =>
      refine iteT (ev_var rfl _ ⟨_, p.2, ?_, same_newer p.1 hD, ?_⟩)
      · rw [List.length_map]
        refine Nat.lt_of_le_of_lt (List.length_filter_le _ _) ?_
        rw [List.length_range]
        exact Nat.lt_of_lt_of_le hi (Nat.le_trans hn (by decide))
      · rw [upd_same, filter_snoc, e]
        simp
  · refine e_lst ea_nil (by show 0 ≤ 1000; decide) fun l hl => ?_
    have hD2 : upd H' l (.lst []) D = some (.lst (((List.range m.hands.length).filter fun h => !m.rests h).map natV)) := Same.new hl _ _ p.2
    refine ⟨.list ((((List.range m.hands.length).filter fun h => !m.rests h).map Int.ofNat).map PyData.int), .list [], .lst (SqL.of (by rw [hD2, natV_int])) (dp_ints _), .lst (SqL.of upd_same) .nil, shaped_ints _, rfl, ?_⟩
    have e : PyData.eqv (.list ((((List.range m.hands.length).filter fun h => !m.rests h).map Int.ofNat).map PyData.int)) (.list []) = m.isDone := by
      unfold M.isDone
      have e1 : ∀ xs : List Int, PyData.eqv (.list (xs.map PyData.int)) (.list []) = xs.isEmpty := by
        intro xs
        cases xs <;> rfl
      rw [e1]
      by_cases h : (List.range m.hands.length).all m.rests = true
      · rw [h, List.isEmpty_iff, List.map_eq_nil_iff, List.filter_eq_nil_iff]
        intro a ha
        rw [List.all_eq_true] at h
        simp [h a ha]
      · have h' : (List.range m.hands.length).all m.rests = false := by simpa using h
        rw [h']
        cases e : (List.map Int.ofNat ((List.range m.hands.length).filter fun h => !m.rests h)).isEmpty with
        | false => rfl
        | true =>
          rw [List.isEmpty_iff, List.map_eq_nil_iff, List.filter_eq_nil_iff] at e
          exact absurd (List.all_eq_true.mpr fun a ha => by simpa using e a ha) h
    rw [e]
    exact q _ (same_newer p.1 (by
      cases z : H l with
      | none => rfl
      | some o =>
        have := p.1 l o z
        rw [hl] at this
        cases this))

/-! ### what is refused: nothing here -/
theorem pure_need_values {Z : Cs} (k : ZOk Z) (vs : List V) (H : Hp) (Q : VK) (E : XK) (h : sp_need_values Z vs H Q E) : t_need_values Z { nx := fun _ H' => Q .non H', rt := Q } (start ["values", "at"] vs) H := by
  obtain ⟨a, ns, rfl, L, hn, hv, q⟩ := h
  unfold t_need_values
  walk_at "q"
  refine s_ifF (et_is (et_test (ev_gt (ev_lenL (ev_var rfl) L) ev_c)) (by rw [List.length_map]; exact decide_eq_false (by omega))) ?_
  dsimp only [tNext]
  refine s_forR (n := ns.length) (ev_is (ev_lenL (ev_var rfl) L) (by rw [List.length_map])) (by omega) (fun i s' H' => H' = H ∧ ∃ w, s' = [some (.ref a), w]) ⟨rfl, none, rfl⟩ ?_ ?_
  · rintro i s' H' hi ⟨rfl, w, rfl⟩
    obtain ⟨n, hn⟩ : ∃ n, ns[i]? = some n := ⟨_, List.getElem?_eq_getElem hi⟩
    obtain ⟨h1, h2⟩ := hv n (List.mem_of_getElem? hn)
    have hat : atI (ns.map V.int) (i : Int) = some (.int n) := atI_nat (by rw [List.getElem?_map, hn] <;> rfl)
    refine s_ifF (et_is (et_not (et_test (ev_leLe ev_c (ev_ixL (ev_var rfl) (ev_var rfl) L hat) ev_c))) ?_) ⟨rfl, _, rfl⟩
    rw [decide_eq_true h1, decide_eq_true h2]
    rfl
  · rintro s' H' ⟨rfl, w, rfl⟩
    exact q
theorem pure_is_deed {Z : Cs} (k : ZOk Z) (vs : List V) (H : Hp) (Q : VK) (E : XK) (h : sp_is_deed Z vs H Q E) : t_is_deed Z { nx := fun _ H' => Q .non H', rt := Q } (start ["deed"] vs) H := by
  obtain ⟨v, d, rfl, ⟨p, rfl, hq⟩, hv, q⟩ := h
  unfold t_is_deed
  walk_at "q"
  have n1 : decide (V.str "push" = V.str "pop") = false := by decide +kernel
  have n2 : decide (V.str "push" = V.str "push") = true := decide_eq_true rfl
  have n3 : decide (V.str "pop" = V.str "pop") = true := decide_eq_true rfl
  cases d with
  | pop =>
    refine s_ifF (et_is (et_test (ev_eq (ev_lenT (ev_var rfl) (SqT.of hq)) ev_c rfl)) rfl) ?_
    dsimp only [tNext]
    walk_at "q"
    refine s_ifT (et_is (et_test (ev_eq (ev_word rfl hq) ev_c rfl)) n3) ?_
    dsimp only
    exact s_ret (ev_is (ev_eq (ev_lenT (ev_var rfl) (SqT.of hq)) ev_c rfl) rfl) q
  | push x =>
    refine s_ifF (et_is (et_test (ev_eq (ev_lenT (ev_var rfl) (SqT.of hq)) ev_c rfl)) rfl) ?_
    dsimp only [tNext]
    walk_at "q"
    refine s_ifF (et_is (et_test (ev_eq (ev_word rfl hq) ev_c rfl)) n1) ?_
    dsimp only [tNext]
    refine s_ret (ev_is (ev_andV (ev_eq (ev_word rfl hq) ev_c rfl) fun _ => ev_andV (ev_eq (ev_lenT (ev_var rfl) (SqT.of hq)) ev_c rfl) fun _ => ev_leLe ev_c (ev_ixT (ev_var rfl) ev_c (SqT.of hq) (atI_nat (j := 1) rfl)) ev_c) ?_) q
    rw [n2, decide_eq_true hv.1, decide_eq_true hv.2]
    rfl
theorem pure_need_deeds {Z : Cs} (k : ZOk Z) (vs : List V) (H : Hp) (Q : VK) (E : XK) (h : sp_need_deeds Z vs H Q E) : t_need_deeds Z { nx := fun _ H' => Q .non H', rt := Q } (start ["deeds", "hand", "number"] vs) H := by
  obtain ⟨v, hh, ds, rfl, ⟨p, us, rfl, hp, hu⟩, hn, hv, q⟩ := h
  unfold t_need_deeds
  refine s_forR (n := ds.length) (ev_is (ev_lenL (ev_var rfl) (SqL.of hp)) (by rw [hu.length])) (by omega) (fun i s' H' => H' = H ∧ ∃ w, s' = [some (.ref p), some (.int hh), w]) ⟨rfl, none, rfl⟩ ?_ ?_
  · rintro i s' H' hi ⟨rfl, w, rfl⟩
    obtain ⟨d, hd⟩ : ∃ d, ds[i]? = some d := ⟨_, List.getElem?_eq_getElem hi⟩
    obtain ⟨u, hui, hdu⟩ := hu.get i hd
    refine s_if_of ?_
    show tCall _ _ _ _ _ _ _
    refine s_call (ea_cons (ev_ixL (ev_var rfl) (ev_var rfl) (SqL.of hp) (atI_nat hui)) ea_nil) ⟨u, d, rfl, hdu, hv d (List.mem_of_getElem? hd), ⟨_, rfl, ?_⟩⟩
    exact iteF ⟨rfl, _, rfl⟩
  · rintro s' H' ⟨rfl, w, rfl⟩
    exact q
theorem pure_need_programs {Z : Cs} (k : ZOk Z) (vs : List V) (H : Hp) (Q : VK) (E : XK) (h : sp_need_programs Z vs H Q E) : t_need_programs Z { nx := fun _ H' => Q .non H', rt := Q } (start ["programs", "hand"] vs) H := by
  obtain ⟨l, ps, rfl, ⟨us, L, hu⟩, ⟨h1, h2⟩, h4, hv, q⟩ := h
  unfold t_need_programs
  walk_at "q"
  have hl := hu.length
  refine s_ifF (et_is (et_not (et_test (ev_leLe ev_c (ev_lenL (ev_var rfl) L) ev_c))) ?_) ?_
  · rw [hl, decide_eq_true (show (1 : Int) ≤ (ps.length : Int) by omega), decide_eq_true (show (ps.length : Int) ≤ 3 by omega)]
    rfl
  dsimp only [tNext]
  refine s_forR (n := ps.length) (ev_is (ev_lenL (ev_var rfl) L) (by rw [hl])) (by omega) (fun i s' H' => H' = H ∧ ∃ w, s' = [some (.ref l), w]) ⟨rfl, none, rfl⟩ ?_ ?_
  · rintro i s' H' hi ⟨rfl, w, rfl⟩
    obtain ⟨d, hd⟩ : ∃ d, ps[i]? = some d := ⟨_, List.getElem?_eq_getElem hi⟩
    obtain ⟨u, hui, p, vs', rfl, hp, hdu⟩ := hu.get i hd
    have m := List.mem_of_getElem? hd
    walk_at "q"
    refine s_ifF (et_is (et_test (ev_gt (ev_lenL (ev_ixL (ev_var rfl) (ev_var rfl) L (atI_nat hui)) (SqL.of hp)) ev_c)) ?_) ?_
    · rw [hdu.length]
      have := h4 d m
      exact decide_eq_false (by omega)
    dsimp only [tNext]
    refine s_drop' (s_call (ea_cons (ev_ixL (ev_var rfl) (ev_var rfl) L (atI_nat hui)) (ea_cons (ev_var rfl) ea_nil)) ⟨_, i, d, rfl, ⟨p, vs', rfl, hp, hdu⟩, ?_, hv d m, ⟨rfl, _, rfl⟩⟩)
    have := h4 d m
    omega
  · rintro s' H' ⟨rfl, w, rfl⟩
    exact q
end SS

set_option Elab.async false
set_option linter.all false
set_option maxRecDepth 100000
set_option maxHeartbeats 4000000
namespace SS
open PySem L2
local macro_rules | `(tactic| walk_at "q") => `(tactic| ((try dsimp only); refine s_seq ?_))

theorem rising_get : ∀ {l : List Nat} {i a b : Nat}, rising l → l[i]? = some a → l[i + 1]? = some b → a < b
  | [], i, a, b, _, h, _ => by simp at h
  | [x], i, a, b, _, _, h => by simp at h
  | x :: y :: l, 0, a, b, hr, h1, h2 => by
    have e1 : x = a := Option.some.inj h1
    have e2 : y = b := Option.some.inj h2
    subst e1 e2
    exact hr.1
  | x :: y :: l, i + 1, a, b, hr, h1, h2 => rising_get (l := y :: l) (i := i) hr.2 (by simpa using h1) (by simpa using h2)
theorem natI (l : List Nat) : (l.map Int.ofNat).map V.int = l.map natV := (natV_int l).symm
def ruleD : Rule → PyData
  | .counts m => .tuple [.str "counts", .int m]
  | .marks hs => .tuple [.str "marks", .tuple ((hs.map Int.ofNat).map PyData.int)]
  | .keeps => .tuple [.str "keeps"]
theorem canLay_ints : ∀ l : List Int, PyData.canLayAll0 (l.map PyData.int) = true := by
  intro l
  induction l with
  | nil => rfl
  | cons a l ih => simp [PyData.canLayAll0, PyData.canLay0, ih]
theorem depth_ints : ∀ l : List Int, PyData.depthAll (l.map PyData.int) = 0 := by
  intro l
  induction l with
  | nil => rfl
  | cons a l ih => simp [PyData.depthAll, PyData.depth, ih]
theorem ruleD_shaped : ∀ r : Rule, SeqAt.shaped (ruleD r) = true
  | .counts m => by
    simp only [ruleD, SeqAt.shaped, PyData.canLay0, PyData.canLayAll0, PyData.depth, PyData.depthAll]
    decide +kernel
  | .keeps => by decide +kernel
  | .marks hs => by
    simp only [ruleD, SeqAt.shaped, PyData.canLay0, PyData.canLayAll0, PyData.depth, PyData.depthAll, canLay_ints, depth_ints]
    decide +kernel
theorem ruleDp {K : PySem.W.Frag} {H : Hp} {a : Addr} : ∀ {r : Rule}, RuleAt H a r → Dp K H (.ref a) (ruleD r)
  | .counts m, h => .tup (SqT.of h) (.cons (.str _) (.cons (.int _) .nil))
  | .keeps, h => .tup (SqT.of h) (.cons (.str _) .nil)
  | .marks hs, ⟨t, h1, h2⟩ => .tup (SqT.of h1) (.cons (.str _) (.cons (.tup (SqT.of h2) (by rw [natV_int]; exact dp_ints _)) .nil))
theorem ruleD_keeps (r : Rule) : PyData.eqv (ruleD r) (.tuple [.str "keeps"]) = decide (r = .keeps) := by
  cases r with
  | counts m =>
    have : PyData.eqv (ruleD (.counts m)) (.tuple [.str "keeps"]) = (PyData.eqv (.str "counts") (.str "keeps") && false) := rfl
    rw [this, Bool.and_false]
    rfl
  | marks hs =>
    have : PyData.eqv (ruleD (.marks hs)) (.tuple [.str "keeps"]) = (PyData.eqv (.str "marks") (.str "keeps") && false) := rfl
    rw [this, Bool.and_false]
    rfl
  | keeps => decide +kernel
theorem pure_need_rule {Z : Cs} (k : ZOk Z) (vs : List V) (H : Hp) (Q : VK) (E : XK) (h : sp_need_rule Z vs H Q E) : t_need_rule Z { nx := fun _ H' => Q .non H', rt := Q } (start ["rule", "many", "at"] vs) H := by
  obtain ⟨a, r, many, rfl, R, ok, q⟩ := h
  unfold t_need_rule
  walk_at "q"
  refine s_if_of (t_test_of (t_op_of (ev_var rfl _ (e_tup (ea_cons ev_c ea_nil) (by show 1 ≤ 1000; decide) fun p hp => ?_))))
  have c1 : Same H (upd H p (.tup [.str "keeps"])) := Same.new hp
  have R1 := R.mono (H' := upd H p (.tup [.str "keeps"])) fun b xs e => c1 _ _ e
  refine ⟨ruleD r, .tuple [.str "keeps"], ruleDp R1, .tup (SqT.of upd_same) (.cons (.str _) .nil), ruleD_shaped r, (by decide +kernel), ⟨_, rfl, ?_⟩⟩
  rw [ruleD_keeps]
  by_cases ek : r = .keeps
  · rw [decide_eq_true ek]
    refine iteT ?_
    exact q _ c1
  rw [decide_eq_false ek]
  refine iteF ?_
  dsimp only [tNext]
  obtain ⟨xs, hR, hat⟩ := ruleW _ a r R1
  have hlen : xs.length = 2 := by
    cases r with
    | counts m =>
      have := hR.symm.trans R1
      cases this
      rfl
    | marks hs =>
      obtain ⟨t, h1, _⟩ := R1
      have := hR.symm.trans h1
      cases this
      rfl
    | keeps => exact absurd rfl ek
  walk_at "q"
  refine s_if_of ?_
  refine (et_test (ev_is (ev_ne (ev_lenT (ev_var rfl) (SqT.of hR)) ev_c rfl) (by rw [hlen] <;> rfl))) _ ?_
  refine iteF ?_
  refine t_test_of (t_op_of ?_)
  refine (ev_ixT (ev_var rfl) ev_c (SqT.of hR) hat) _ (e_tup (ea_cons ev_c (ea_cons ev_c ea_nil)) (by show 2 ≤ 1000; decide) fun p2 hp2 => ?_)
  have c2 := same_newer (D := p2) (o := .tup [.str "counts", .str "marks"]) c1 (by
    cases z : H p2 with
    | none => rfl
    | some o =>
      have := c1 p2 o z
      rw [hp2] at this
      cases this)
  have c12 : Same (upd H p (.tup [.str "keeps"])) (upd (upd H p (.tup [.str "keeps"])) p2 (.tup [.str "counts", .str "marks"])) := Same.new hp2
  have R2 := R1.mono fun b xs e => c12 _ _ e
  refine ⟨p2, _, rfl, .inr (SqT.of upd_same), rfl, rfl, ⟨_, rfl, ?_⟩⟩
  have hin : inV (V.str r.word) [.str "counts", .str "marks"] = true := by
    cases r with
    | counts m => exact (by decide +kernel : inV (V.str "counts") [.str "counts", .str "marks"] = true)
    | marks hs => exact (by decide +kernel : inV (V.str "marks") [.str "counts", .str "marks"] = true)
    | keeps => exact absurd rfl ek
  rw [if_pos rfl, hin]
  refine iteF ?_
  dsimp only [tNext]
  cases r with
  | keeps => exact absurd rfl ek
  | counts m =>
    have R3 := R2
    simp only [RuleAt] at R3
    refine s_ifT (et_is (et_test (ev_eq (ev_ixT (ev_var rfl) ev_c (SqT.of R3) (atI_nat (j := 0) rfl)) ev_c rfl)) (decide_eq_true rfl)) ?_
    refine s_ifF (et_is (et_not (et_test (ev_leLe ev_c (ev_ixT (ev_var rfl) ev_c (SqT.of R3) (atI_nat (j := 1) rfl)) ev_c))) ?_) (q _ c2)
    obtain ⟨h1, h2⟩ := ok
    rw [decide_eq_true (show (1 : Int) ≤ (m : Int) by omega), decide_eq_true (show (m : Int) ≤ 15 by omega)]
    rfl
  | marks hs =>
    obtain ⟨t, R3, R4⟩ := R2
    obtain ⟨h1, h2, h3⟩ := ok
    refine s_ifF (et_is (et_test (ev_eq (ev_ixT (ev_var rfl) ev_c (SqT.of R3) (atI_nat (j := 0) rfl)) ev_c rfl)) (by decide +kernel)) ?_
    have e1 : ∀ {s : L2.St}, s[0]? = some (some (.ref a)) → Ev (tOp (rIxT Z.K) (tVar 0) (tC (.int 1))) s (upd (upd H p (.tup [.str "keeps"])) p2 (.tup [.str "counts", .str "marks"])) (.ref t) := fun h => ev_ixT (ev_var h) ev_c (SqT.of R3) (atI_nat (j := 1) rfl)
    refine s_forR (n := hs.length) (ev_is (ev_lenT (e1 rfl) (SqT.of R4)) (by rw [List.length_map])) (by omega)
      (fun i s' H' => H' = (upd (upd H p (.tup [.str "keeps"])) p2 (.tup [.str "counts", .str "marks"])) ∧ ∃ w, s' = [some (.ref a), some (.int many), w]) ⟨rfl, none, rfl⟩ ?_ ?_
    · rintro i s' H' hi ⟨rfl, w, rfl⟩
      obtain ⟨x, hx⟩ : ∃ x, hs[i]? = some x := ⟨_, List.getElem?_eq_getElem hi⟩
      have hxm := h1 x (List.mem_of_getElem? hx)
      have hv : (hs.map natV)[i]? = some (natV x) := by rw [List.getElem?_map, hx] <;> rfl
      refine s_ifF (et_is (et_or (et_not (et_test (ev_leLt ev_c (ev_ixT (e1 rfl) (ev_var rfl) (SqT.of R4) (atI_nat hv)) (ev_var rfl)))) fun _ =>
        (show EvT (tAnd _ _) _ _ false from ?_)) ?_) ⟨rfl, _, rfl⟩
      · by_cases e0 : i = 0
        · subst e0
          exact et_is (et_and (b := true) (et_test (ev_gt (ev_var rfl) ev_c)) fun e => absurd e (by decide)) rfl
        · obtain ⟨y, hy⟩ : ∃ y, hs[i - 1]? = some y := ⟨_, List.getElem?_eq_getElem (by omega)⟩
          have hlt : y < x := rising_get h2 hy (by rw [show i - 1 + 1 = i by omega]; exact hx)
          have hvy : (hs.map natV)[i - 1]? = some (natV y) := by rw [List.getElem?_map, hy] <;> rfl
          refine et_is (et_and (et_test (ev_gt (ev_var rfl) ev_c)) fun _ => et_test (ev_le (ev_ixT (e1 rfl) (ev_var rfl) (SqT.of R4) (atI_nat hv)) (ev_ixT (e1 rfl) (ev_sub (ev_var rfl) ev_c) (SqT.of R4) (atI_pred (by omega) hvy)))) ?_
          rw [decide_eq_false (show ¬ (x : Int) ≤ (y : Int) by omega), Bool.and_false]
      · rw [decide_eq_true (show (0 : Int) ≤ (x : Int) by omega), decide_eq_true (show (x : Int) < (many : Int) by omega)]
        rfl
    · rintro s' H' ⟨rfl, w, rfl⟩
      exact q _ c2
end SS

set_option Elab.async false
set_option linter.all false
set_option maxRecDepth 100000
set_option maxHeartbeats 4000000
namespace SS
open PySem L2
local macro_rules | `(tactic| walk_at "q") => `(tactic| ((try dsimp only); refine s_seq ?_))

/-! ### the attributes as they come -/
theorem hp1 (v : V) : putF ("program" : Str) v ([] : List (Str × V)) = ([("program", v)] : List (Str × V)) := by kernel_rfl
theorem hp2 (a v : V) : putF ("at" : Str) v ([("program", a)] : List (Str × V)) = ([("program", a), ("at", v)] : List (Str × V)) := by kernel_rfl
theorem hp3 (a b v : V) : putF ("cell" : Str) v ([("program", a), ("at", b)] : List (Str × V)) = ([("program", a), ("at", b), ("cell", v)] : List (Str × V)) := by kernel_rfl
theorem hp4 (a b c v : V) : putF ("seen" : Str) v ([("program", a), ("at", b), ("cell", c)] : List (Str × V)) = ([("program", a), ("at", b), ("cell", c), ("seen", v)] : List (Str × V)) := by kernel_rfl
theorem hp5 (a b c d v : V) : putF ("follow" : Str) v ([("program", a), ("at", b), ("cell", c), ("seen", d)] : List (Str × V)) = ([("program", a), ("at", b), ("cell", c), ("seen", d), ("follow", v)] : List (Str × V)) := by kernel_rfl
theorem hp6 (a b c d e v : V) : putF ("mark" : Str) v ([("program", a), ("at", b), ("cell", c), ("seen", d), ("follow", e)] : List (Str × V)) = ([("program", a), ("at", b), ("cell", c), ("seen", d), ("follow", e), ("mark", v)] : List (Str × V)) := by kernel_rfl
theorem hp7 (a b c d e f v : V) : putF ("looked" : Str) v ([("program", a), ("at", b), ("cell", c), ("seen", d), ("follow", e), ("mark", f)] : List (Str × V)) = ([("program", a), ("at", b), ("cell", c), ("seen", d), ("follow", e), ("mark", f), ("looked", v)] : List (Str × V)) := by kernel_rfl
theorem hp8 (a b c d e f g v : V) : putF ("said" : Str) v ([("program", a), ("at", b), ("cell", c), ("seen", d), ("follow", e), ("mark", f), ("looked", g)] : List (Str × V)) = ([("program", a), ("at", b), ("cell", c), ("seen", d), ("follow", e), ("mark", f), ("looked", g), ("said", v)] : List (Str × V)) := by kernel_rfl
theorem mp1 (v : V) : putF ("rule" : Str) v ([] : List (Str × V)) = ([("rule", v)] : List (Str × V)) := by kernel_rfl
theorem mp2 (a v : V) : putF ("worths" : Str) v ([("rule", a)] : List (Str × V)) = ([("rule", a), ("worths", v)] : List (Str × V)) := by kernel_rfl
theorem mp3 (a b v : V) : putF ("links" : Str) v ([("rule", a), ("worths", b)] : List (Str × V)) = ([("rule", a), ("worths", b), ("links", v)] : List (Str × V)) := by kernel_rfl
theorem mp4 (a b c v : V) : putF ("top" : Str) v ([("rule", a), ("worths", b), ("links", c)] : List (Str × V)) = ([("rule", a), ("worths", b), ("links", c), ("top", v)] : List (Str × V)) := by kernel_rfl
theorem mp5 (a b c d v : V) : putF ("count" : Str) v ([("rule", a), ("worths", b), ("links", c), ("top", d)] : List (Str × V)) = ([("rule", a), ("worths", b), ("links", c), ("top", d), ("count", v)] : List (Str × V)) := by kernel_rfl
theorem mp6 (a b c d e v : V) : putF ("freed" : Str) v ([("rule", a), ("worths", b), ("links", c), ("top", d), ("count", e)] : List (Str × V)) = ([("rule", a), ("worths", b), ("links", c), ("top", d), ("count", e), ("freed", v)] : List (Str × V)) := by kernel_rfl
theorem mp7 (a b c d e f v : V) : putF ("hands" : Str) v ([("rule", a), ("worths", b), ("links", c), ("top", d), ("count", e), ("freed", f)] : List (Str × V)) = ([("rule", a), ("worths", b), ("links", c), ("top", d), ("count", e), ("freed", f), ("hands", v)] : List (Str × V)) := by kernel_rfl
theorem mp8 (a b c d e f g v : V) : putF ("ends" : Str) v ([("rule", a), ("worths", b), ("links", c), ("top", d), ("count", e), ("freed", f), ("hands", g)] : List (Str × V)) = ([("rule", a), ("worths", b), ("links", c), ("top", d), ("count", e), ("freed", f), ("hands", g), ("ends", v)] : List (Str × V)) := by kernel_rfl
theorem mp9 (a b c d e f g h v : V) : putF ("strayed" : Str) v ([("rule", a), ("worths", b), ("links", c), ("top", d), ("count", e), ("freed", f), ("hands", g), ("ends", h)] : List (Str × V)) = ([("rule", a), ("worths", b), ("links", c), ("top", d), ("count", e), ("freed", f), ("hands", g), ("ends", h), ("strayed", v)] : List (Str × V)) := by kernel_rfl

/-- all but p stands -/
abbrev But (p : Addr) (H H' : Hp) : Prop := ∀ b o, H b = some o → b ≠ p → H' b = some o
theorem But.put {p : Addr} {H H' : Hp} (c : But p H H') {o : HO} : But p H (upd H' p o) := fun b u e n => by rw [upd_ne n]; exact c b u e n
theorem But.new {p q : Addr} {H H' : Hp} (c : But p H H') {o : HO} (h : H' q = none) : But p H (upd H' q o) := fun b u e n => by
  rw [upd_ne (ne_of_none (c b u e n) h)]
  exact c b u e n
theorem But.same {p : Addr} {H H' H2 : Hp} (c : But p H H') (d : Same H' H2) : But p H H2 := fun b u e n => d _ _ (c b u e n)
theorem But.free {p q : Addr} {H H' : Hp} (c : But p H H') {o : HO} (hp : H' p = some o) (h : H' q = none) : H q = none := by
  cases z : H q with
  | none => rfl
  | some u =>
    have hq : q ≠ p := fun e => by rw [e, hp] at h; cases h
    have := c q u z hq
    rw [h] at this
    cases this
/-- a field of a young object is stored -/
theorem s_young {Z : Cs} {s : L2.St} {H : Hp} {D : Ends} {ta te : TE} {C p dx : Addr} {fs fs' : List (Str × V)} {f : Str} {v : V} (ha : Ev ta s H (.ref p)) (h : H p = some (.ins C dx fs)) (c : Cls Z.K C) (n : NoAttr Z.K C f) (hl : fs.length < 1000) (e : putF f v fs = fs')
    (hv : Ev te s H v) (k : D.nx s (upd H p (.ins C dx fs'))) : sFld Z.K ta te f D s H := s_fld hv ha h c n hl (by rw [e]; exact k)
theorem pure_H_init {Z : Cs} (k : ZOk Z) (vs : List V) (H : Hp) (Q : VK) (E : XK) (h : sp_H_init Z vs H Q E) : t_H_init Z { nx := fun _ H' => Q .non H', rt := Q } (start ["self", "program"] vs) H := by
  obtain ⟨p, dx, l, us, ds, rfl, hp, hL, hd, q⟩ := h
  unfold t_H_init
  walk_at "q"
  refine e_listOf (ev_var rfl) (.inl (SqL.of hL)) fun l1 hl1 => ?_
  have p1 := Same.new (o := .lst us) hl1 _ _ hp
  show sFld Z.K (tVar 0) (tC (.ref l1)) "program" _ _ _
  refine s_young (Z := Z) (ev_var rfl) p1 k.clH k.h_program (by decide) (hp1 _) ev_c ?_
  walk_at "q"
  refine s_young (Z := Z) (ev_var rfl) upd_same k.clH k.h_at (by simp) (hp2 _ _) ev_c ?_
  walk_at "q"
  refine s_young (Z := Z) (ev_var rfl) upd_same k.clH k.h_cell (by simp) (hp3 _ _ _) ev_c ?_
  walk_at "q"
  refine s_young (Z := Z) (ev_var rfl) upd_same k.clH k.h_seen (by simp) (hp4 _ _ _ _) ev_c ?_
  walk_at "q"
  refine s_young (Z := Z) (ev_var rfl) upd_same k.clH k.h_follow (by simp) (hp5 _ _ _ _ _) ev_c ?_
  walk_at "q"
  refine s_young (Z := Z) (ev_var rfl) upd_same k.clH k.h_mark (by simp) (hp6 _ _ _ _ _ _) ev_c ?_
  walk_at "q"
  refine s_young (Z := Z) (ev_var rfl) upd_same k.clH k.h_looked (by simp) (hp7 _ _ _ _ _ _ _) ev_c ?_
  rw [upd_upd, upd_upd, upd_upd, upd_upd, upd_upd, upd_upd]
  dsimp only
  refine e_lst ea_nil (by show 0 ≤ 1000; decide) fun l2 hl2 => ?_
  have c1 : But p H (upd H l1 (.lst us)) := But.new (fun _ _ e _ => e) hl1
  have c2 := c1.put (o := .ins Z.H dx ([("program", V.ref l1), ("at", V.int 0), ("cell", V.int 0), ("seen", V.non), ("follow", V.non), ("mark", V.int 0), ("looked", V.bl false)] : List (Str × V)))
  have c3 := c2.new (o := .lst []) hl2
  have npl1 : p ≠ l1 := ne_of_none hp hl1
  have e1 : upd (upd H l1 (.lst us)) p (.ins Z.H dx ([("program", V.ref l1), ("at", V.int 0), ("cell", V.int 0), ("seen", V.non), ("follow", V.non), ("mark", V.int 0), ("looked", V.bl false)] : List (Str × V))) l1 = some (.lst us) := by
    rw [upd_ne npl1.symm]
    exact upd_same
  have nl12 : l1 ≠ l2 := ne_of_none e1 hl2
  have npl2 : p ≠ l2 := ne_of_none upd_same hl2
  show sFld Z.K (tVar 0) (tC (.ref l2)) "said" _ _ _
  refine s_young (Z := Z) (ev_var rfl) (by rw [upd_ne npl2]; exact upd_same) k.clH k.h_said (by simp) (hp8 _ _ _ _ _ _ _ _) ev_c ?_
  refine q ⟨p, dx, l1, l2⟩ _ rfl hl1 (c2.free (H' := upd (upd H l1 (.lst us)) p (.ins Z.H dx _)) upd_same hl2) nl12 upd_same ?_ ?_ (c3.put)
  · rw [upd_ne npl1.symm, upd_ne nl12]
    exact e1
  · rw [upd_ne npl2.symm]
    exact upd_same
end SS

set_option Elab.async false
set_option linter.all false
set_option maxRecDepth 100000
set_option maxHeartbeats 4000000
namespace SS
open PySem L2
local macro_rules | `(tactic| walk_at "q") => `(tactic| ((try dsimp only); refine s_seq ?_))

def HA.ad (a : HA) : List Addr := [a.h, a.said, a.prog]
def MA.six (A : MA) : List Addr := [A.p, A.worths, A.links, A.freed, A.handsL, A.ends]
def Role.ix : Role → Nat
  | .m => 0 | .worths => 1 | .links => 2 | .freed => 3 | .handsL => 4 | .ends => 5
  | .hand _ => 0 | .said _ => 1 | .prog _ => 2
def Role.of : Role → Option Nat
  | .hand i => some i | .said i => some i | .prog i => some i
  | _ => none
theorem Role.ext {r r' : Role} (h1 : r.of = r'.of) (h2 : r.ix = r'.ix) : r = r' := by
  cases r <;> cases r' <;> simp [Role.of, Role.ix] at h1 h2 <;> first | rfl | (rw [h1])
theorem MA.at_six {A : MA} {r : Role} {a : Addr} (h : A.at r = some a) (o : r.of = none) : A.six[r.ix]? = some a := by
  cases r <;> first | exact h | (simp [Role.of] at o)
theorem MA.at_hand {A : MA} {r : Role} {a : Addr} {i : Nat} (h : A.at r = some a) (o : r.of = some i) : ∃ b, A.hs[i]? = some b ∧ b.ad[r.ix]? = some a := by
  cases r with
  | hand j =>
    have e : j = i := Option.some.inj o
    subst e
    simp only [MA.at, Option.map_eq_some_iff] at h
    obtain ⟨b, h1, h2⟩ := h
    exact ⟨b, h1, congrArg some h2⟩
  | said j =>
    have e : j = i := Option.some.inj o
    subst e
    simp only [MA.at, Option.map_eq_some_iff] at h
    obtain ⟨b, h1, h2⟩ := h
    exact ⟨b, h1, congrArg some h2⟩
  | prog j =>
    have e : j = i := Option.some.inj o
    subst e
    simp only [MA.at, Option.map_eq_some_iff] at h
    obtain ⟨b, h1, h2⟩ := h
    exact ⟨b, h1, congrArg some h2⟩
  | _ => cases o
theorem nodup_ix {l : List Addr} (nd : l.Nodup) {i j : Nat} {a : Addr} (h1 : l[i]? = some a) (h2 : l[j]? = some a) : i = j := nd_ix nd h1 h2
theorem sep_of {A : MA} (nd : A.six.Nodup) (fx : ∀ (i : Nat) (a : HA), A.hs[i]? = some a → ∀ x ∈ a.ad, x ∉ A.six) (wi : ∀ (i : Nat) (a : HA), A.hs[i]? = some a → a.ad.Nodup)
    (hh : ∀ (i j : Nat) (a b : HA) (x : Addr), A.hs[i]? = some a → A.hs[j]? = some b → x ∈ a.ad → x ∈ b.ad → i = j) : ∀ r r' a, A.at r = some a → A.at r' = some a → r = r' := by
  intro r r' a h h'
  cases e : r.of with
  | none =>
    cases e' : r'.of with
    | none => exact Role.ext (e.trans e'.symm) (nodup_ix nd (MA.at_six h e) (MA.at_six h' e'))
    | some i =>
      obtain ⟨b, hb, hx⟩ := MA.at_hand h' e'
      exact absurd (List.mem_of_getElem? (MA.at_six h e)) (fx i b hb a (List.mem_of_getElem? hx))
  | some i =>
    obtain ⟨b, hb, hx⟩ := MA.at_hand h e
    cases e' : r'.of with
    | none => exact absurd (List.mem_of_getElem? (MA.at_six h' e')) (fx i b hb a (List.mem_of_getElem? hx))
    | some j =>
      obtain ⟨b', hb', hx'⟩ := MA.at_hand h' e'
      have ij := hh i j b b' a hb hb' (List.mem_of_getElem? hx) (List.mem_of_getElem? hx')
      subst ij
      rw [hb] at hb'
      cases hb'
      exact Role.ext (e.trans e'.symm) (nodup_ix (wi i b hb) hx hx')
theorem seq_but {K : PySem.W.Frag} {H H' : Hp} {p C dx : Addr} {fs : List (Str × V)} {a : Addr} {xs : List V} (c : But p H H') (hp : H p = some (.ins C dx fs)) (h : SqL K H a xs) : SqL K H' a xs := by
  rcases h with (h | ⟨o, h⟩) | h
  · exact .inl (.inl (c _ _ h fun e => by rw [e, hp] at h; cases h))
  · exact .inl (.inr ⟨o, c _ _ h fun e => by rw [e, hp] at h; cases h⟩)
  · exact .inr h
theorem free_of {H H' : Hp} (c : Same H H') {x : Addr} (h : H' x = none) : H x = none := by
  cases z : H x with
  | none => rfl
  | some o =>
    have := c x o z
    rw [h] at this
    cases this
/-- the hands that stand so far: all new since Hc, apart from each other and from D -/
structure Young (Z : Cs) (Hc H : Hp) (D : Addr) (as : List HA) (ps : List (List Deed)) : Prop where
  same : Same Hc H
  list : H D = some (.lst (as.map fun a => V.ref a.h))
  hand : ∀ (j : Nat) (a : HA), as[j]? = some a → HandO Z H a .non {}
  said : ∀ (j : Nat) (a : HA), as[j]? = some a → H a.said = some (.lst [])
  prog : ∀ (j : Nat) (a : HA) (ds : List Deed), as[j]? = some a → ps[j]? = some ds → ∃ us, H a.prog = some (.lst us) ∧ All2 (DeedAt H) us ds
  there : ∀ (j : Nat) (a : HA), as[j]? = some a → ∀ x ∈ a.ad, H x ≠ none ∧ Hc x = none ∧ x ≠ D
  wi : ∀ (j : Nat) (a : HA), as[j]? = some a → a.ad.Nodup
  hh : ∀ (i j : Nat) (a b : HA) (x : Addr), as[i]? = some a → as[j]? = some b → x ∈ a.ad → x ∈ b.ad → i = j
theorem snoc_get {α : Type} {l : List α} {x : α} {i : Nat} {y : α} (h : (l ++ [x])[i]? = some y) : l[i]? = some y ∨ (i = l.length ∧ y = x) := by
  rw [List.getElem?_append] at h
  split at h
  · exact .inl h
  · rename_i hi
    have : i - l.length < 1 := by
      have := (List.getElem?_eq_some_iff.mp h).1
      simpa using this
    have e : i = l.length := by omega
    rw [e, Nat.sub_self] at h
    exact .inr ⟨e, (Option.some.inj h).symm⟩
theorem Young.more {Z : Cs} {Hc H : Hp} {D : Addr} {as : List HA} {ps : List (List Deed)} (y : Young Z Hc H D as ps) (hDc : Hc D = none) {a : HA} {H1 H2 : Hp} {us : List V} {ds : List Deed} (hd : ps[as.length]? = some ds)
    (s1 : Same H H1) (hx : H a.h = none) (hx1 : ∃ o, H1 a.h = some o) (hp : H1 a.prog = none) (hs : H1 a.said = none) (nps : a.prog ≠ a.said) (O : HandO Z H2 a .non {}) (P : H2 a.prog = some (.lst us)) (S : H2 a.said = some (.lst [])) (hu : All2 (DeedAt H) us ds) (s2 : Same H H2) :
    Young Z Hc (upd H2 D (.lst ((as.map fun a => V.ref a.h) ++ [.ref a.h]))) D (as ++ [a]) ps := by
  have sc : Same Hc H2 := fun b o e => s2 b o (y.same b o e)
  have s3 : Same Hc (upd H2 D (.lst ((as.map fun a => V.ref a.h) ++ [.ref a.h]))) := same_newer sc hDc
  have D1 := s1 _ _ y.list
  have D2 := s2 _ _ y.list
  have nD : ∀ x, x ∈ a.ad → x ≠ D := fun x hx' => by
    simp only [HA.ad, List.mem_cons, List.not_mem_nil, or_false] at hx'
    rcases hx' with rfl | rfl | rfl
    · exact fun e => by rw [e, y.list] at hx; cases hx
    · exact fun e => by rw [e, D1] at hs; cases hs
    · exact fun e => by rw [e, D1] at hp; cases hp
  have hn : ∀ x, x ∈ a.ad → H x = none := fun x hx' => by
    simp only [HA.ad, List.mem_cons, List.not_mem_nil, or_false] at hx'
    rcases hx' with rfl | rfl | rfl
    · exact hx
    · exact free_of s1 hs
    · exact free_of s1 hp
  have tup : ∀ b xs, H b = some (.tup xs) → upd H2 D (.lst ((as.map fun a => V.ref a.h) ++ [.ref a.h])) b = some (.tup xs) := fun b xs e => by
    rw [upd_ne (fun z => by rw [z, y.list] at e; cases e)]
    exact s2 _ _ e
  refine ⟨s3, by rw [upd_same, List.map_append] <;> rfl, fun j b hb => ?_, fun j b hb => ?_, fun j b ds' hb hd' => ?_, fun j b hb x hx' => ?_, fun j b hb => ?_, fun i j b c x hb hc h1 h2 => ?_⟩
  · rcases snoc_get hb with hb | ⟨_, rfl⟩
    · show upd _ _ _ _ = _
      rw [upd_ne (y.there j b hb b.h (by simp [HA.ad])).2.2]
      exact s2 _ _ (y.hand j b hb)
    · show upd _ _ _ _ = _
      rw [upd_ne (nD b.h (by simp [HA.ad]))]
      exact O
  · rcases snoc_get hb with hb | ⟨_, rfl⟩
    · rw [upd_ne (y.there j b hb b.said (by simp [HA.ad])).2.2]
      exact s2 _ _ (y.said j b hb)
    · rw [upd_ne (nD b.said (by simp [HA.ad]))]
      exact S
  · rcases snoc_get hb with hb | ⟨e, rfl⟩
    · obtain ⟨us', h1, h2⟩ := y.prog j b ds' hb hd'
      refine ⟨us', ?_, h2.mono fun _ _ => DeedAt.mono tup⟩
      rw [upd_ne (y.there j b hb b.prog (by simp [HA.ad])).2.2]
      exact s2 _ _ h1
    · subst e
      rw [hd] at hd'
      cases hd'
      refine ⟨us, ?_, hu.mono fun _ _ => DeedAt.mono tup⟩
      rw [upd_ne (nD b.prog (by simp [HA.ad]))]
      exact P
  · rcases snoc_get hb with hb | ⟨_, rfl⟩
    · obtain ⟨h1, h2, h3⟩ := y.there j b hb x hx'
      refine ⟨?_, h2, h3⟩
      rw [upd_ne h3]
      cases z : H x with
      | none => exact absurd z h1
      | some o => rw [s2 _ _ z]; exact fun e => by cases e
    · refine ⟨?_, free_of y.same (hn x hx'), nD x hx'⟩
      rw [upd_ne (nD x hx')]
      simp only [HA.ad, List.mem_cons, List.not_mem_nil, or_false] at hx'
      rcases hx' with rfl | rfl | rfl
      · rw [show H2 b.h = _ from O]; exact fun e => by cases e
      · rw [S]; exact fun e => by cases e
      · rw [P]; exact fun e => by cases e
  · rcases snoc_get hb with hb | ⟨_, rfl⟩
    · exact y.wi j b hb
    · obtain ⟨o, ho⟩ := hx1
      have n1 : b.h ≠ b.said := fun e => by rw [e, hs] at ho; cases ho
      have n2 : b.h ≠ b.prog := fun e => by rw [e, hp] at ho; cases ho
      simp [HA.ad, n1, n2, nps.symm]
  · rcases snoc_get hb with hb' | ⟨e1, eb⟩
    · rcases snoc_get hc with hc' | ⟨e2, ec⟩
      · exact y.hh i j b c x hb' hc' h1 h2
      · exact absurd (hn x (by rw [← ec]; exact h2)) (y.there i b hb' x h1).1
    · rcases snoc_get hc with hc' | ⟨e2, ec⟩
      · exact absurd (hn x (by rw [← eb]; exact h1)) (y.there j c hc' x h2).1
      · rw [e1, e2]
end SS

set_option Elab.async false
set_option linter.all false
set_option maxRecDepth 100000
set_option maxHeartbeats 4000000
namespace SS
open PySem L2
local macro_rules | `(tactic| walk_at "q") => `(tactic| ((try dsimp only); refine s_seq ?_))

theorem rgV_nat (n : Nat) : rgV 0 (n : Int) = (List.range n).map natV := by
  unfold rgV
  rw [show ((n : Int) - 0).toNat = n by omega]
  exact List.map_congr_left fun i _ => by rw [Int.zero_add]
theorem ProgsAt.but {K : PySem.W.Frag} {H H' : Hp} {p C dx l : Addr} {fs : List (Str × V)} {ps : List (List Deed)} (c : But p H H') (hp : H p = some (.ins C dx fs)) (h : ProgsAt K H l ps) : ProgsAt K H' l ps := by
  obtain ⟨us, L, hu⟩ := h
  have np : ∀ b o, H b = some o → (∀ fs, o ≠ .ins C dx fs) → b ≠ p := fun b o e n z => by
    rw [z, hp] at e
    cases e
    exact n _ rfl
  have tup : Tups H H' := fun b xs e => c _ _ e (np _ _ e fun fs => by intro z; cases z)
  refine ⟨us, seq_but c hp L, hu.mono fun v ds => ?_⟩
  rintro ⟨q, vs, rfl, h1, h2⟩
  exact ⟨q, vs, rfl, c _ _ h1 (np _ _ h1 fun fs => by intro z; cases z), h2.mono fun _ _ => DeedAt.mono tup⟩
theorem pure_M_init {Z : Cs} (k : ZOk Z) (vs : List V) (H : Hp) (Q : VK) (E : XK) (h : sp_M_init Z vs H Q E) : t_M_init Z { nx := fun _ H' => Q .non H', rt := Q } (start ["self", "values", "programs", "rule", "program"] vs) H := by
  obtain ⟨p, dx, lv, lp, lr, values, ps, r, rfl, hp, hv, hps, hr, ok, q⟩ := h
  unfold t_M_init
  walk_at "q"
  refine s_drop' (s_call (ea_cons (ev_var rfl) ea_nil) ⟨lv, values, rfl, hv, ok.vlen, ok.vals, ?_⟩)
  walk_at "q"
  refine s_drop' (s_call (ea_cons (ev_var rfl) ea_nil) ⟨lp, ps, rfl, hps, ok.plen, ok.dlen, ok.deeds, ?_⟩)
  walk_at "q"
  obtain ⟨pus, hpl, hpu⟩ := id hps
  refine s_drop' (s_call (ea_cons (ev_var rfl) (ea_cons (ev_is (ev_lenL (ev_var rfl) hpl) (by rw [hpu.length])) ea_nil)) ⟨lr, r, ps.length, rfl, hr, ok.rule, fun H1 c1 => ?_⟩)
  have b1 : But p H H1 := fun b o e _ => c1 b o e
  have p1 := c1 _ _ hp
  walk_at "q"
  refine s_young (Z := Z) (ev_var rfl) p1 k.clM k.m_rule (by decide) (mp1 _) (ev_var rfl) ?_
  have b2 := b1.put (o := .ins Z.M dx ([("rule", V.ref lr)] : List (Str × V)))
  -- worths
  walk_at "q"
  refine e_listOf (ev_var rfl) (.inl (seq_but b2 hp hv)) fun lw hlw => ?_
  show sFld Z.K (tVar 0) (tC (.ref lw)) "worths" _ _ _
  have b3 := b2.new (o := .lst (values.map V.int)) hlw
  have p3 := Same.new (o := .lst (values.map V.int)) hlw _ _ (upd_same (H := H1) (a := p) (o := .ins Z.M dx ([("rule", V.ref lr)] : List (Str × V))))
  have nw : p ≠ lw := ne_of_none upd_same hlw
  have fw : H lw = none := b2.free upd_same hlw
  refine s_young (Z := Z) (ev_var rfl) p3 k.clM k.m_worths (by simp) (mp2 _ _) ev_c ?_
  generalize h4 : upd (upd (upd H1 p (HO.ins Z.M dx ([("rule", V.ref lr)] : List (Str × V)))) lw (HO.lst (List.map V.int values))) p (HO.ins Z.M dx ([("rule", V.ref lr), ("worths", V.ref lw)] : List (Str × V))) = H4
  have b4 : But p H H4 := by rw [← h4]; exact b3.put
  have p4 : H4 p = some (.ins Z.M dx ([("rule", V.ref lr), ("worths", V.ref lw)] : List (Str × V))) := by rw [← h4]; exact upd_same
  have w4 : H4 lw = some (.lst (values.map V.int)) := by rw [← h4, upd_ne nw.symm]; exact upd_same
  -- links
  walk_at "q"
  refine ev_lenL (ev_var rfl) (seq_but b4 hp hv) _ ⟨_, rfl, ?_⟩
  rw [List.length_map]
  refine ⟨.of_le (by omega) (by have := ok.vlen; omega) (by omega) (by omega), fun ll hll => ?_⟩
  rw [rgV_nat]
  show sFld Z.K (tVar 0) (tC (.ref ll)) "links" _ _ _
  have b5 := b4.new (o := .lst ((List.range values.length).map natV)) hll
  have p5 := Same.new (o := .lst ((List.range values.length).map natV)) hll _ _ p4
  have w5 := Same.new (o := .lst ((List.range values.length).map natV)) hll _ _ w4
  have nl : p ≠ ll := ne_of_none p4 hll
  have nlw : lw ≠ ll := ne_of_none w4 hll
  have fl : H ll = none := b4.free p4 hll
  refine s_young (Z := Z) (ev_var rfl) p5 k.clM k.m_links (by simp) (mp3 _ _ _) ev_c ?_
  generalize h6 : upd (upd H4 ll (HO.lst ((List.range values.length).map natV))) p (HO.ins Z.M dx ([("rule", V.ref lr), ("worths", V.ref lw), ("links", V.ref ll)] : List (Str × V))) = H6
  have b6 : But p H H6 := by rw [← h6]; exact b5.put
  have p6 : H6 p = some (.ins Z.M dx ([("rule", V.ref lr), ("worths", V.ref lw), ("links", V.ref ll)] : List (Str × V))) := by rw [← h6]; exact upd_same
  have w6 : H6 lw = some (.lst (values.map V.int)) := by rw [← h6, upd_ne nw.symm]; exact w5
  have l6 : H6 ll = some (.lst ((List.range values.length).map natV)) := by rw [← h6, upd_ne nl.symm]; exact upd_same
  -- top, count
  walk_at "q"
  refine s_young (Z := Z) (ev_var rfl) p6 k.clM k.m_top (by simp) (mp4 _ _ _ _) (ev_is (ev_lenL (ev_var rfl) (seq_but b6 hp hv)) (by rw [List.length_map])) ?_
  walk_at "q"
  refine s_young (Z := Z) (ev_var rfl) upd_same k.clM k.m_count (by simp) (mp5 _ _ _ _ _) ev_c ?_
  rw [upd_upd]
  generalize h7 : upd H6 p (HO.ins Z.M dx ([("rule", V.ref lr), ("worths", V.ref lw), ("links", V.ref ll), ("top", V.int values.length), ("count", V.int 0)] : List (Str × V))) = H7
  have b7 : But p H H7 := by rw [← h7]; exact b6.put
  have p7 : H7 p = some (.ins Z.M dx ([("rule", V.ref lr), ("worths", V.ref lw), ("links", V.ref ll), ("top", V.int values.length), ("count", V.int 0)] : List (Str × V))) := by rw [← h7]; exact upd_same
  have w7 : H7 lw = some (.lst (values.map V.int)) := by rw [← h7, upd_ne nw.symm]; exact w6
  have l7 : H7 ll = some (.lst ((List.range values.length).map natV)) := by rw [← h7, upd_ne nl.symm]; exact l6
  -- freed
  walk_at "q"
  refine e_lst ea_nil (by show 0 ≤ 1000; decide) fun lf hlf => ?_
  show sFld Z.K (tVar 0) (tC (.ref lf)) "freed" _ _ _
  have b8 := b7.new (o := .lst []) hlf
  have p8 := Same.new (o := .lst []) hlf _ _ p7
  have w8 := Same.new (o := .lst []) hlf _ _ w7
  have l8 := Same.new (o := .lst []) hlf _ _ l7
  have nf : p ≠ lf := ne_of_none p7 hlf
  have nfw : lw ≠ lf := ne_of_none w7 hlf
  have nfl : ll ≠ lf := ne_of_none l7 hlf
  have ff : H lf = none := b7.free p7 hlf
  refine s_young (Z := Z) (ev_var rfl) p8 k.clM k.m_freed (by simp) (mp6 _ _ _ _ _ _) ev_c ?_
  generalize h9 : upd (upd H7 lf (HO.lst [])) p (HO.ins Z.M dx ([("rule", V.ref lr), ("worths", V.ref lw), ("links", V.ref ll), ("top", V.int values.length), ("count", V.int 0), ("freed", V.ref lf)] : List (Str × V))) = H9
  have b9 : But p H H9 := by rw [← h9]; exact b8.put
  have p9 : H9 p = some (.ins Z.M dx ([("rule", V.ref lr), ("worths", V.ref lw), ("links", V.ref ll), ("top", V.int values.length), ("count", V.int 0), ("freed", V.ref lf)] : List (Str × V))) := by rw [← h9]; exact upd_same
  have w9 : H9 lw = some (.lst (values.map V.int)) := by rw [← h9, upd_ne nw.symm]; exact w8
  have l9 : H9 ll = some (.lst ((List.range values.length).map natV)) := by rw [← h9, upd_ne nl.symm]; exact l8
  have f9 : H9 lf = some (.lst []) := by rw [← h9, upd_ne nf.symm]; exact upd_same
  -- hands
  have hps9 := hps.but b9 hp
  obtain ⟨us, L9, hu9⟩ := hps9
  walk_at "q"
  refine e_lcL (ev_var rfl) L9 (fun D i H' => ∃ as : List HA, as.length = i ∧ Young Z H9 H' D as ps) (fun D hD => ⟨[], rfl, Same.new hD, upd_same, by simp, by simp, by simp, by simp, by simp, by simp⟩) (fun D i H' _ _ p => ?_) (fun D i x H' hx hD hy => ?_) (fun D H' hD hy => ?_)
  · obtain ⟨as, _, y⟩ := p
    exact Same.seq y.same L9
  · obtain ⟨as, rfl, y⟩ := hy
    have hi : as.length < ps.length := by rw [← hu9.length]; exact (List.getElem?_eq_some_iff.mp hx).1
    obtain ⟨ds, hds⟩ : ∃ ds, ps[as.length]? = some ds := ⟨_, List.getElem?_eq_getElem hi⟩
    obtain ⟨x', hx', qq, vs', rfl, hq, hd⟩ := hu9.get as.length hds
    rw [hx] at hx'
    cases hx'
    have hq' := y.same _ _ hq
    refine ⟨rfl, et_yes _ (iteT ?_)⟩
    refine (ea_cons (ev_var rfl) ea_nil) _ ?_
    intro x dx' hx0 hdx0 hne
    have s1 : Same H' (upd (upd H' dx' (.own x)) x (.ins Z.H dx' [])) := fun b o e => by
      rw [upd_ne (ne_of_none e hx0), upd_ne (ne_of_none e hdx0)]
      exact e
    refine ⟨x, dx', qq, vs', ds, rfl, upd_same, s1 _ _ hq', ?_, ?_⟩
    · exact hd.mono fun _ _ => DeedAt.mono fun b xs e => s1 _ _ (y.same _ _ e)
    · intro a H2 ea hpn hsn nps O P S bt
      refine ⟨rfl, ?_⟩
      have s2 : Same H' H2 := Same.made hx0 hdx0 bt
      refine ⟨_, s2 _ _ y.list, ?_, as ++ [a], by simp, ?_⟩
      · rw [List.length_map]
        have := ok.plen.2
        exact Nat.lt_of_lt_of_le hi (Nat.le_trans this (by decide))
      · rw [← ea]
        exact y.more hD hds s1 (by rw [ea]; exact hx0) ⟨_, by rw [ea]; exact upd_same⟩ hpn hsn nps O P S (hd.mono fun _ _ => DeedAt.mono fun b xs e => y.same _ _ e) s2
  · obtain ⟨as, hlen, y⟩ := hy
    rw [hu9.length] at hlen
    show sFld Z.K (tVar 0) (tC (.ref D)) "hands" _ _ _
    have bA : But p H H' := b9.same y.same
    have pA := y.same _ _ p9
    have nD : p ≠ D := ne_of_none p9 hD
    have nDw : lw ≠ D := ne_of_none w9 hD
    have nDl : ll ≠ D := ne_of_none l9 hD
    have nDf : lf ≠ D := ne_of_none f9 hD
    have fD : H D = none := b9.free p9 hD
    refine s_young (Z := Z) (ev_var rfl) pA k.clM k.m_hands (by simp) (mp7 _ _ _ _ _ _ _) ev_c ?_
    generalize hB : upd H' p (HO.ins Z.M dx ([("rule", V.ref lr), ("worths", V.ref lw), ("links", V.ref ll), ("top", V.int values.length), ("count", V.int 0), ("freed", V.ref lf), ("hands", V.ref D)] : List (Str × V))) = HB
    have bB : But p H HB := by rw [← hB]; exact bA.put
    have pB : HB p = some (.ins Z.M dx ([("rule", V.ref lr), ("worths", V.ref lw), ("links", V.ref ll), ("top", V.int values.length), ("count", V.int 0), ("freed", V.ref lf), ("hands", V.ref D)] : List (Str × V))) := by rw [← hB]; exact upd_same
    have kB : ∀ b o, H' b = some o → b ≠ p → HB b = some o := fun b o e n => by rw [← hB, upd_ne n]; exact e
    walk_at "q"
    refine e_lst ea_nil (by show 0 ≤ 1000; decide) fun le hle => ?_
    show sFld Z.K (tVar 0) (tC (.ref le)) "ends" _ _ _
    have ne : p ≠ le := ne_of_none pB hle
    have fe : H le = none := bB.free pB hle
    have pC := Same.new (o := .lst []) hle _ _ pB
    have kC : ∀ b o, H' b = some o → b ≠ p → upd HB le (.lst []) b = some o := fun b o e n => Same.new hle _ _ (kB b o e n)
    have nB : ∀ b o, H' b = some o → b ≠ p → b ≠ le := fun b o e n => ne_of_none (kB b o e n) hle
    refine s_young (Z := Z) (ev_var rfl) pC k.clM k.m_ends (by simp) (mp8 _ _ _ _ _ _ _ _) ev_c ?_
    refine s_young (Z := Z) (ev_var rfl) upd_same k.clM k.m_strayed (by simp) (mp9 _ _ _ _ _ _ _ _ _) ev_c ?_
    rw [upd_upd]
    have kD : ∀ b o, H' b = some o → b ≠ p → upd (upd HB le (.lst [])) p (.ins Z.M dx ([("rule", V.ref lr), ("worths", V.ref lw), ("links", V.ref ll), ("top", V.int values.length), ("count", V.int 0), ("freed", V.ref lf), ("hands", V.ref D), ("ends", V.ref le), ("strayed", V.bl false)] : List (Str × V))) b = some o := fun b o e n => by
      rw [upd_ne n]
      exact kC b o e n
    have npa : ∀ (j : Nat) (a : HA), as[j]? = some a → ∀ x ∈ a.ad, x ≠ p := fun j a ha x hx e => by
      have := (y.there j a ha x hx).2.1
      rw [e, p9] at this
      cases this
    let A : MA := ⟨p, dx, lr, lw, ll, lf, D, le, as⟩
    have hw' := y.same _ _ w9
    have hl' := y.same _ _ l9
    have hf' := y.same _ _ f9
    have tup : Tups H' _ := fun b xs e => kD b _ e fun z => by rw [z, pA] at e; cases e
    have tupH : Tups H _ := fun b xs e => tup b xs (bA b _ e fun z => by rw [z, hp] at e; cases e)
    have hdM : ∀ i, (M.begin_ values ps r).hd i = {} := fun i => by
      unfold M.hd M.begin_
      rw [List.getD_eq_getElem?_getD, List.getElem?_map]
      cases ps[i]? <;> rfl
    refine q A _ rfl ?_ ⟨?_, hr.mono tupH, ?_, ?_, ?_⟩ ?_
    · rintro a ⟨ro, ho⟩ nap
      have six : a ∈ A.six → H a = none := fun h => by
        simp only [MA.six, List.mem_cons, List.not_mem_nil, or_false] at h
        rcases h with h | h | h | h | h | h
        · exact absurd h nap
        · rw [h]; exact fw
        · rw [h]; exact fl
        · rw [h]; exact ff
        · rw [h]; exact fD
        · rw [h]; exact fe
      cases e : ro.of with
      | none => exact six (List.mem_of_getElem? (MA.at_six ho e))
      | some i =>
        obtain ⟨b, hb, hx⟩ := MA.at_hand ho e
        obtain ⟨h1, h2, h3⟩ := y.there i b hb a (List.mem_of_getElem? hx)
        exact b9.free p9 h2
    · intro ro a ho
      cases ro with
      | m =>
        cases ho
        exact ⟨_, upd_same, rfl⟩
      | worths =>
        cases ho
        exact ⟨_, kD _ _ hw' nw.symm, rfl⟩
      | links =>
        cases ho
        exact ⟨_, kD _ _ hl' nl.symm, rfl⟩
      | freed =>
        cases ho
        exact ⟨_, kD _ _ hf' nf.symm, rfl⟩
      | handsL =>
        cases ho
        exact ⟨_, kD _ _ y.list nD.symm, rfl⟩
      | ends =>
        cases ho
        refine ⟨.lst [], ?_, [], rfl, .nil⟩
        rw [upd_ne ne.symm]
        exact upd_same
      | hand i =>
        obtain ⟨b, hb, hx⟩ := MA.at_hand (i := i) ho rfl
        have e : b.h = a := Option.some.inj hx
        subst e
        exact ⟨_, kD _ _ (y.hand i b hb) (npa i b hb _ (by simp [HA.ad])), b, .non, hb, by rw [hdM], by rw [hdM]; rfl⟩
      | said i =>
        obtain ⟨b, hb, hx⟩ := MA.at_hand (i := i) ho rfl
        have e : b.said = a := Option.some.inj hx
        subst e
        refine ⟨_, kD _ _ (y.said i b hb) (npa i b hb _ (by simp [HA.ad])), ?_⟩
        show _ = _
        rw [hdM]
        rfl
      | prog i =>
        obtain ⟨b, hb, hx⟩ := MA.at_hand (i := i) ho rfl
        have e : b.prog = a := Option.some.inj hx
        subst e
        have hi : i < ps.length := by
          rw [← hlen]
          exact (List.getElem?_eq_some_iff.mp hb).1
        have hds : ps[i]? = some (ps.getD i []) := by
          rw [List.getD_eq_getElem?_getD, List.getElem?_eq_getElem hi]
          rfl
        obtain ⟨us', h1, h2⟩ := y.prog i b _ hb hds
        exact ⟨_, kD _ _ h1 (npa i b hb _ (by simp [HA.ad])), us', rfl, h2.mono fun _ _ => DeedAt.mono tup⟩
    · show as.length = (ps.map _).length
      rw [List.length_map, hlen]
    · show ps.length = (ps.map _).length
      rw [List.length_map]
    · refine sep_of ?_ ?_ y.wi y.hh
      · have n1 := nB _ _ hw' nw.symm
        have n2 := nB _ _ hl' nl.symm
        have n3 := nB _ _ hf' nf.symm
        have n4 := nB _ _ y.list nD.symm
        simp [MA.six, A, nw, nl, nf, nD, ne, nlw, nfw, nDw, nfl, nDl, nDf, n1, n2, n3, n4]
      · intro i a ha x hx hs
        obtain ⟨h1, h2, h3⟩ := y.there i a ha x hx
        have n1 := npa i a ha x hx
        simp only [MA.six, List.mem_cons, List.not_mem_nil, or_false] at hs
        rcases hs with h | h | h | h | h | h
        · exact n1 h
        · rw [h] at h2; exact absurd (w9.symm.trans h2) (by intro z; cases z)
        · rw [h] at h2; exact absurd (l9.symm.trans h2) (by intro z; cases z)
        · rw [h] at h2; exact absurd (f9.symm.trans h2) (by intro z; cases z)
        · exact h3 h
        · cases z : H' x with
          | none => exact h1 z
          | some o => exact nB x o z n1 h
    · intro b o e n
      exact kD b o (bA b o e n) n
end SS

set_option Elab.async false
set_option linter.all false
set_option maxRecDepth 100000
set_option maxHeartbeats 4000000
namespace SS
open PySem L2
local macro_rules | `(tactic| walk_at "q") => `(tactic| ((try dsimp only); refine s_seq ?_))

def sp_serial (Z : Cs) : Sp := fun vs H Q _ => ∃ (lv ld : Addr) (values : List Int) (us : List V) (ds : List Deed), vs = [.ref lv, .ref ld] ∧ SqL Z.K H lv (values.map V.int) ∧ values.length ≤ 6 ∧ (∀ v ∈ values, okVal v) ∧ H ld = some (.lst us) ∧ All2 (DeedAt H) us ds ∧ ds.length ≤ 1000 ∧ (∀ d ∈ ds, okDeed d) ∧
  ∀ (t la ln : Addr) H', Same H H' → H t = none → H la = none → H ln = none → la ≠ ln → H' t = some (.tup [.ref la, .ref ln]) → H' la = some (.lst ((serial values ds).1.map ansV)) → H' ln = some (.lst ((serial values ds).2.map V.int)) → Q (.ref t) H'
def sp_played (Z : Cs) : Sp := fun vs H Q _ => ∃ (lv lp lr lw : Addr) (values : List Int) (ps : List (List Deed)) (r : Rule) (w : List Nat), vs = [.ref lv, .ref lp, .ref lr, .ref lw] ∧ SqL Z.K H lv (values.map V.int) ∧ ProgsAt Z.K H lp ps ∧ RuleAt H lr r ∧ okIn values ps r ∧
  SqL Z.K H lw (w.map natV) ∧ (∀ h ∈ w, h < ps.length) ∧ w.length ≤ 100000 ∧ ∀ l us H', H l = none → Same H H' → H' l = some (.lst us) → All2 (TellAt H') us ((M.begin_ values ps r).tells w) → Q (.ref l) H'
/-- what whole tells: new lists, all apart -/
def WholeAt (H H' : Hp) (v : V) (m : M) : Prop := ∃ (t la lo lv : Addr) (as : List Addr) (us : List V), v = .ref t ∧ H' t = some (.tup [.ref la, .ref lo, .ref lv, .bl m.strayed]) ∧ H' la = some (.lst (as.map V.ref)) ∧ All2 (fun (a : Addr) (x : Hd) => H' a = some (.lst (x.said.map ansV))) as m.hands ∧
  H' lo = some (.lst us) ∧ All2 (PairAt H') us m.ends ∧ H' lv = some (.lst (m.pileValues.map V.int)) ∧ (la :: lo :: lv :: as).Nodup ∧ ∀ a ∈ la :: lo :: lv :: as, H a = none
def sp_whole (Z : Cs) : Sp := fun vs H Q _ => ∃ (lv lp lr lw : Addr) (values : List Int) (ps : List (List Deed)) (r : Rule) (w : List Nat), vs = [.ref lv, .ref lp, .ref lr, .ref lw] ∧ SqL Z.K H lv (values.map V.int) ∧ ProgsAt Z.K H lp ps ∧ RuleAt H lr r ∧ okIn values ps r ∧
  SqL Z.K H lw (w.map natV) ∧ (∀ h ∈ w, h < ps.length) ∧ ∀ v H', Same H H' → WholeAt H H' v (wholeM values ps r w) → Q v H'

/-! ### readings (printed) -/
/-- serial: 0 values, 1 deeds, 2 now, 3 answers, 4 deed -/
def t_serial (Z : Cs) : TS :=
  tSeq (tDrop (tCall (sp_need_values Z) [] E0 (tCons (tVar 0) tNil)))
    (tSeq (tDrop (tCall (sp_need_deeds Z) [] E0 (tCons (tVar 1) (tCons (tC (.int 0)) tNil))))
    (tSeq (tAsg (tCB (rListOf Z.K) (tCons (tVar 0) tNil)) (gName 2))
    (tSeq (tAsg (tLst tNil) (gName 3))
    (tSeq (tFor (iList Z.K (tVar 1)) (gName 4) ((tIfS (tTest (tOp rEq (tOp (rIxT Z.K) (tVar 4) (tC (.int 0))) (tC (.str "push")))) (tSeq (tDrop (tBM Z.K "list" rAppend (tVar 2) (tCons (tOp (rIxT Z.K) (tVar 4) (tC (.int 1))) tNil)))
    ((tDrop (tBM Z.K "list" rAppend (tVar 3) (tCons (tC (.str "done")) tNil))))) ((tIfS (tTest (tOp (rEqD Z.K) (tVar 2) (tLst tNil))) ((tDrop (tBM Z.K "list" rAppend (tVar 3) (tCons (tC .non) tNil)))) ((tDrop (tBM Z.K "list" rAppend (tVar 3) (tCons (tBM0 Z.K "list" rPop (tVar 2)) tNil)))))))))
    ((tRet (tTup (tCons (tVar 3) (tCons (tVar 2) tNil)))))))))
/-- played: 0 values, 1 programs, 2 rule, 3 weaving, 4 machine, 5 hand -/
def t_played (Z : Cs) : TS :=
  tSeq (tAsg (tMake Z.M (sp_M_init Z) [] E0 (tCons (tVar 0) (tCons (tVar 1) (tCons (tVar 2) tNil)))) (gName 4))
    ((tRet (tLc (iList Z.K (tVar 3)) (gName 5) tYes (tMeth Z.M "turn" (sp_M_turn Z) [] E0 (tVar 4) (tCons (tVar 5) tNil)) [5])))
/-- whole: 0 values, 1 programs, 2 rule, 3 weaving, 4 machine, 5 hand, 6 answers -/
def t_whole (Z : Cs) : TS :=
  tSeq (tAsg (tMake Z.M (sp_M_init Z) [] E0 (tCons (tVar 0) (tCons (tVar 1) (tCons (tVar 2) tNil)))) (gName 4))
    (tSeq (tFor (iList Z.K (tVar 3)) (gName 5) ((tDrop (tMeth Z.M "turn" (sp_M_turn Z) [] E0 (tVar 4) (tCons (tVar 5) tNil)))))
    (tSeq (tWhile (tNot (tB (tMeth Z.M "is_done" (sp_M_is_done Z) [] E0 (tVar 4) tNil))) ((tFor (iRng1 (tCons (tCB (rLen1 Z.K) (tCons (tVar 1) tNil)) tNil)) (gName 5) ((tDrop (tMeth Z.M "turn" (sp_M_turn Z) [] E0 (tVar 4) (tCons (tVar 5) tNil)))))))
    (tSeq (tAsg (tLc (iRng1 (tCons (tCB (rLen1 Z.K) (tCons (tVar 1) tNil)) tNil)) (gName 5) tYes (tMeth Z.M "answers" (sp_M_answers Z) [] E0 (tVar 4) (tCons (tVar 5) tNil)) [5]) (gName 6))
    ((tRet (tTup (tCons (tVar 6) (tCons (tMeth Z.M "order" (sp_M_order Z) [] E0 (tVar 4) tNil) (tCons (tMeth Z.M "pile_values" (sp_M_pile_values Z) [] E0 (tVar 4) tNil) (tCons (tMeth Z.M "is_stale" (sp_M_is_stale Z) [] E0 (tVar 4) tNil) tNil))))))))))
end SS

set_option Elab.async false
set_option linter.all false
set_option maxRecDepth 100000
set_option maxHeartbeats 4000000
namespace SS
open PySem L2
local macro_rules | `(tactic| walk_at "q") => `(tactic| ((try dsimp only); refine s_seq ?_))

theorem chg_fill' {H H' : Hp} {F : Addr → Prop} {D : Addr} {o : HO} (c : Chg F H H') (h : H D = none) : Chg F H (upd H' D o) :=
  ⟨fun b u e n => by rw [upd_ne (ne_of_none e h)]; exact c.keep b u e n, fun b u e s => by rw [upd_ne (ne_of_none e h)]; exact c.fix_ b u e s⟩
/-- a machine is made -/
theorem s_machine {Z : Cs} {s : L2.St} {H : Hp} {ar : TA} {lv lp lr : Addr} {values : List Int} {ps : List (List Deed)} {r : Rule} {Q : VK} (ha : EvA ar s H [.ref lv, .ref lp, .ref lr]) (hv : SqL Z.K H lv (values.map V.int)) (hp : ProgsAt Z.K H lp ps) (hr : RuleAt H lr r) (ok : okIn values ps r)
    (q : ∀ (A : MA) H', Same H H' → (∀ a, A.owns a → H a = none) → MachAt Z H' A (M.begin_ values ps r) → Q (.ref A.p) H') : tMake Z.M (sp_M_init Z) [] E0 ar s H Q := by
  refine t_make_of (ha _ fun x dx hx hdx ne => ?_)
  have s1 : Same H (upd (upd H dx (.own x)) x (.ins Z.M dx [])) := fun b o e => by
    rw [upd_ne (ne_of_none e hx), upd_ne (ne_of_none e hdx)]
    exact e
  have hp' : ProgsAt Z.K (upd (upd H dx (.own x)) x (.ins Z.M dx [])) lp ps := by
    obtain ⟨us, L, hu⟩ := hp
    refine ⟨us, Same.seq s1 L, hu.mono fun v ds => ?_⟩
    rintro ⟨q, vs, rfl, h1, h2⟩
    exact ⟨q, vs, rfl, s1 _ _ h1, h2.mono fun _ _ => DeedAt.mono fun b xs e => s1 _ _ e⟩
  refine ⟨x, dx, lv, lp, lr, values, ps, r, rfl, upd_same, Same.seq s1 hv, hp', hr.mono fun b xs e => s1 _ _ e, ok, fun A H' eA own T bt => ⟨rfl, ?_⟩⟩
  rw [← eA]
  refine q A H' (Same.made hx hdx bt) (fun a ho => ?_) T
  by_cases e : a = x
  · rw [e]; exact hx
  · exact free_of s1 (own a ho e)
/-- what a machine that is new has changed of what was -/
theorem same_own {F : Addr → Prop} {H H1 H2 : Hp} (c : Same H H1) (d : Chg F H1 H2) (n : ∀ a, F a → H a = none) : Same H H2 := fun b o e => d.keep b o (c b o e) fun z => by
  rw [n b z] at e
  cases e
theorem MachAt.own_ne {Z : Cs} {H : Hp} {A : MA} {m : M} (T : MachAt Z H A m) {a D : Addr} (h : A.owns a) (hD : H D = none) : a ≠ D := by
  obtain ⟨r, hr⟩ := h
  obtain ⟨o, ho, _⟩ := T.at_ r a hr
  exact ne_of_none ho hD
/-- a list of ours is filled -/
theorem MachAt.fill {Z : Cs} {H : Hp} {A : MA} {m : M} (T : MachAt Z H A m) {D : Addr} {xs : List V} {o : HO} (hD : H D = some (.lst xs)) (n : ∀ a, A.owns a → a ≠ D) : MachAt Z (upd H D o) A m :=
  T.chg (F := fun a => a = D) (Chg.put rfl fun u e => by rw [hD] at e; cases e; exact fun z => z) n
theorem s_turn {Z : Cs} {s : L2.St} {H : Hp} {A : MA} {m : M} {n : Nat} {te : TE} {h : Nat} {Q : VK} (h0 : s[n]? = some (some (.ref A.p))) (he : Ev te s H (.int h)) (T : MachAt Z H A m) (W : Wf m) (hl : h < m.hands.length)
    (q : ∀ v H', MachAt Z H' A (m.step h) → Chg A.owns H H' → TellAt H' v (m.turn h).1 → Q v H') : tMeth Z.M "turn" (sp_M_turn Z) [] E0 (tVar n) (tCons te tNil) s H Q :=
  s_meth (ev_var h0) T.obj (mf_no _ _ _ (by simp)) (ea_cons he ea_nil) ⟨A, m, h, rfl, T, W, hl, fun H' v T' C t _ => q v H' T' C t⟩
theorem s_turnR {Z : Cs} {s : L2.St} {H : Hp} {A : MA} {m : M} {n : Nat} {te : TE} {h : Nat} {Q : VK} (h0 : s[n]? = some (some (.ref A.p))) (he : Ev te s H (.int h)) (T : MachAt Z H A m) (W : Wf m) (hl : h < m.hands.length) (hr : m.rests h = true)
    (q : ∀ v H', Same H H' → TellAt H' v .rests → Q v H') : tMeth Z.M "turn" (sp_M_turn Z) [] E0 (tVar n) (tCons te tNil) s H Q :=
  s_meth (ev_var h0) T.obj (mf_no _ _ _ (by simp)) (ea_cons he ea_nil) ⟨A, m, h, rfl, T, W, hl, fun H' v T' C t S => q v H' (S hr) (by rw [step_rests hr] at t; exact t)⟩
theorem TellAt.mono {H H' : Hp} (t : Tups H H') {v : V} {w : Tell} (h : TellAt H v w) : TellAt H' v w := let ⟨q, e, h⟩ := h; ⟨q, e, t _ _ h⟩
theorem pure_played {Z : Cs} (k : ZOk Z) (vs : List V) (H : Hp) (Q : VK) (E : XK) (h : sp_played Z vs H Q E) : t_played Z { nx := fun _ H' => Q .non H', rt := Q } (start ["values", "programs", "rule", "weaving", "machine", "hand"] vs) H := by
  obtain ⟨lv, lp, lr, lw, values, ps, r, w, rfl, hv, hp, hr, ok, hw, hh, hlen, q⟩ := h
  unfold t_played
  walk_at "q"
  refine s_asg_of (s_machine (ea_cons (ev_var rfl) (ea_cons (ev_var rfl) (ea_cons (ev_var rfl) ea_nil))) hv hp hr ok fun A H1 c1 own T => ?_)
  show ({ nx := tRet _ _, rt := Q : Ends }).nx _ _
  dsimp only
  refine s_ret_of ?_
  refine e_lcL (ev_var rfl) (Same.seq c1 hw) (fun D i H' => Same H H' ∧ MachAt Z H' A ((M.begin_ values ps r).run (w.take i)) ∧ Chg A.owns H1 H' ∧ ∃ us, H' D = some (.lst us) ∧ All2 (TellAt H') us ((M.begin_ values ps r).tells (w.take i)))
    (fun D hD => ⟨fun b o e => Same.new hD _ _ (c1 b o e), T.new hD, Chg.same (Same.new hD), [], upd_same, .nil⟩) (fun D i H' _ _ p => Same.seq p.1 hw) (fun D i x H' hx hD p => ?_) (fun D H' hD p => ?_)
  · obtain ⟨s1, T1, C1, us, hL, hu⟩ := p
    obtain ⟨h, hh1, rfl⟩ := map_get hx
    have hlt := hh h (List.mem_of_getElem? hh1)
    have f : Fine ps r ((M.begin_ values ps r).run (w.take i)) := (Fine.begin_ ok).run fun x hx => hh x (List.mem_of_mem_take hx)
    have nD : ∀ a, A.owns a → a ≠ D := fun a ha => T.own_ne ha hD
    have hDn : H D = none := free_of c1 hD
    refine ⟨rfl, et_yes _ (iteT (s_turn rfl (ev_var rfl) T1 f.wf (by rw [f.hn]; exact hlt) fun v H2 T2 C2 t => ?_))⟩
    have hL2 := C2.keep _ _ hL fun z => nD D z rfl
    have hul := hu.length
    rw [tells_len] at hul
    refine ⟨us, hL2, ?_, ?_, ?_, ?_, us ++ [v], upd_same, ?_⟩
    · rw [hul, List.length_take]
      exact Nat.lt_of_le_of_lt (Nat.le_trans (Nat.min_le_right _ _) hlen) (by decide)
    · refine same_newer (same_own (F := A.owns) s1 C2 own) hDn
    · rw [take_snoc hh1, run_snoc]
      exact T2.fill hL2 nD
    · exact chg_fill' (C1.trans C2) hD
    · have tup : Tups H2 (upd H2 D (.lst (us ++ [v]))) := fun b xs e => by
        rw [upd_ne (fun z => by rw [z, hL2] at e; cases e)]
        exact e
      rw [take_snoc hh1, tells_snoc]
      exact (hu.mono fun _ _ => TellAt.mono fun b xs e => tup _ _ (C2.tup _ _ e)).snoc (t.mono tup)
  · obtain ⟨s1, T1, C1, us, hL, hu⟩ := p
    rw [List.length_map, List.take_length] at hu
    exact q D us H' (free_of c1 hD) s1 hL hu
end SS

set_option Elab.async false
set_option linter.all false
set_option maxRecDepth 100000
set_option maxHeartbeats 4000000
namespace SS
open PySem L2
local macro_rules | `(tactic| walk_at "q") => `(tactic| ((try dsimp only); refine s_seq ?_))

theorem All2.mono2 {α β : Type} {R S : α → β → Prop} : ∀ {l m}, (∀ a b, a ∈ l → R a b → S a b) → All2 R l m → All2 S l m
  | _, _, _, .nil => .nil
  | _, _, h, .cons a b => .cons (h _ _ List.mem_cons_self a) (All2.mono2 (fun x y hx => h x y (List.mem_cons_of_mem _ hx)) b)
theorem All2.mem' {α β : Type} {R : α → β → Prop} {a : α} : ∀ {l m}, All2 R l m → a ∈ l → ∃ b, R a b
  | _, _, .nil, h => by cases h
  | _, _, .cons x y, h => by
    rcases List.mem_cons.mp h with rfl | h
    · exact ⟨_, x⟩
    · exact All2.mem' y h

theorem pure_whole {Z : Cs} (k : ZOk Z) (vs : List V) (H : Hp) (Q : VK) (E : XK) (h : sp_whole Z vs H Q E) : t_whole Z { nx := fun _ H' => Q .non H', rt := Q } (start ["values", "programs", "rule", "weaving", "machine", "hand", "answers"] vs) H := by
  obtain ⟨lv, lp, lr, lw, values, ps, r, w, rfl, hv, hp, hr, ok, hw, hh, q⟩ := h
  have hp0 := hp
  obtain ⟨us, hps, hus⟩ := hp0
  have hul := hus.length
  unfold t_whole
  walk_at "q"
  refine s_asg_of (s_machine (ea_cons (ev_var rfl) (ea_cons (ev_var rfl) (ea_cons (ev_var rfl) ea_nil))) hv hp hr ok fun A H1 c1 own T => ?_)
  show ({ nx := _, rt := Q : Ends }).nx _ _
  walk_at "q"
  refine s_forL (ev_var rfl) (Same.seq c1 hw) (fun i s' H' => ∃ x : Option V, s' = [some (.ref lv), some (.ref lp), some (.ref lr), some (.ref lw), some (.ref A.p), x, none] ∧ MachAt Z H' A ((M.begin_ values ps r).run (w.take i)) ∧ Chg A.owns H1 H')
    ⟨none, rfl, T, Chg.refl _ _⟩ (fun i s' H' _ ⟨_, _, _, C⟩ => Same.seq (same_own c1 C own) hw) (fun i x s' H' hx p => ?_) (fun s' H' p => ?_)
  · obtain ⟨y, rfl, T1, C1⟩ := p
    obtain ⟨h, hh1, rfl⟩ := map_get hx
    have hlt := hh h (List.mem_of_getElem? hh1)
    have f : Fine ps r ((M.begin_ values ps r).run (w.take i)) := (Fine.begin_ ok).run fun x hx => hh x (List.mem_of_mem_take hx)
    refine s_drop' (s_turn rfl (ev_var rfl) T1 f.wf (by rw [f.hn]; exact hlt) fun v H2 T2 C2 t => ⟨_, rfl, ?_, C1.trans C2⟩)
    rw [take_snoc hh1, run_snoc]
    exact T2
  · obtain ⟨y, rfl, T1, C1⟩ := p
    rw [List.length_map, List.take_length] at T1
    have f0 : Fine ps r ((M.begin_ values ps r).run w) := (Fine.begin_ ok).run hh
    walk_at "q"
    refine s_whileN (fun n s' H' => ∃ (x : Option V) (m : M), s' = [some (.ref lv), some (.ref lp), some (.ref lr), some (.ref lw), some (.ref A.p), x, none] ∧ MachAt Z H' A m ∧ Chg A.owns H1 H' ∧ Fine ps r m ∧ m.mu < n ∧ M.finish n m = wholeM values ps r w)
      ⟨1000, y, _, rfl, T1, C1, f0, f0.mu_le, rfl⟩ ?_ ?_
    · rintro n s' H' ⟨x, m, rfl, T2, C2, f, hmu, hf⟩
      have h3 : m.hands.length ≤ 1000 := by have := f.hn; have := f.plen; omega
      refine t_B_of (s_meth (ev_var rfl) T2.obj (mf_no _ _ _ (by simp)) ea_nil ⟨A, m, rfl, T2, h3, fun H2 s2 => ⟨_, rfl, ?_⟩⟩)
      have T3 := T2.same s2
      have C3 : Chg A.owns H1 H2 := C2.trans (Chg.same s2)
      cases e : m.isDone with
      | false =>
        dsimp only
        rw [if_pos (by rfl)]
        cases n with
        | zero => omega
        | succ n =>
          rw [finish_step e] at hf
          have lt := f.round_lt e
          refine s_forR (n := us.length) (ev_lenL (ev_var rfl) (Same.seq (same_own c1 C3 own) hps)) (by have := f.plen; omega) (fun i s' H' => ∃ x : Option V, s' = [some (.ref lv), some (.ref lp), some (.ref lr), some (.ref lw), some (.ref A.p), x, none] ∧ MachAt Z H' A (m.run (List.range i)) ∧ Chg A.owns H1 H')
            ⟨x, rfl, T3, C3⟩ (fun i s' H' hi p => ?_) (fun s' H' p => ?_)
          · obtain ⟨y, rfl, T4, C4⟩ := p
            have f2 : Fine ps r (m.run (List.range i)) := f.run fun h hh => by have := List.mem_range.mp hh; omega
            refine s_drop' (s_turn rfl (ev_var rfl) T4 f2.wf (by rw [f2.hn]; omega) fun v H5 T5 C5 t => ⟨_, rfl, ?_, C4.trans C5⟩)
            rw [List.range_succ, run_snoc]
            exact T5
          · obtain ⟨y, rfl, T4, C4⟩ := p
            refine ⟨n, Nat.lt_succ_self n, y, m.round, rfl, ?_, C4, f.round, by omega, hf⟩
            have e : m.hands.length = us.length := by rw [f.hn, hul]
            unfold M.round
            rw [e]
            exact T4
      | true =>
        dsimp only
        rw [if_neg (by simp)]
        rw [finish_done e] at hf
        subst hf
        generalize wholeM values ps r w = m at *
        have S2 : Same H H2 := same_own c1 C3 own
        have ml : m.hands.length = us.length := by rw [f.hn, hul]
        walk_at "q"
        refine s_asg_of (e_lcR (n := us.length) (ev_lenL (ev_var rfl) (Same.seq S2 hps)) (by have := f.plen; omega) (fun D i H' => Same H2 H' ∧ ∃ as : List Addr, H' D = some (.lst (as.map V.ref)) ∧ All2 (fun (a : Addr) (x : Hd) => H' a = some (.lst (x.said.map ansV))) as (m.hands.take i) ∧ as.Nodup ∧ ∀ a ∈ as, H2 a = none ∧ a ≠ D)
          (fun D hD => ⟨Same.new hD, [], upd_same, by rw [List.take_zero]; exact .nil, List.nodup_nil, fun _ h => by cases h⟩) (fun D i H' hi hD p => ?_) (fun D H' hD p => ?_))
        · obtain ⟨s3, as, hL, ha, nd, fr⟩ := p
          have T4 := T3.same s3
          obtain ⟨a, hah⟩ := T4.hand_of (i := i) (by omega)
          refine ⟨rfl, et_yes _ (iteT (s_meth (ev_var rfl) T4.obj (mf_no _ _ _ (by simp)) (ea_cons (ev_var rfl) ea_nil) ⟨A, m, i, a, rfl, T4, hah, fun l hl => ?_⟩))⟩
          have lD : l ≠ D := fun z => by rw [z, hL] at hl; cases hl
          have hl2 : H2 l = none := free_of s3 hl
          have hi2 : m.hands[i]? = some (m.hd i) := by
            unfold M.hd
            rw [List.getD_eq_getElem?_getD, List.getElem?_eq_getElem (by omega)]
            rfl
          have hal := ha.length
          rw [List.length_take] at hal
          refine ⟨as.map V.ref, by rw [upd_ne lD.symm]; exact hL, ?_, ?_, as ++ [l], ?_, ?_, ?_, ?_⟩
          · rw [List.length_map, hal]
            have := f.plen
            exact Nat.lt_of_le_of_lt (by omega : _ ≤ 3) (by decide)
          · exact same_newer (fun b o e => Same.new hl _ _ (s3 b o e)) hD
          · rw [List.map_append]
            exact upd_same
          · rw [take_snoc hi2]
            refine (All2.mono2 (fun a x hm e => ?_) ha).snoc ?_
            · have h1 := fr a hm
              rw [upd_ne h1.2, upd_ne (fun z => by rw [z, hl] at e; cases e)]
              exact e
            · rw [upd_ne lD, upd_same]
          · rw [List.nodup_append]
            refine ⟨nd, by simp, ?_⟩
            intro a ha1 b hb
            have hb' : b = l := by simpa using hb
            subst hb'
            obtain ⟨x, hx⟩ := All2.mem' ha ha1
            exact fun z => by rw [z, hl] at hx; cases hx
          · intro b hb
            rcases List.mem_append.mp hb with h | h
            · exact fr b h
            · have hb' : b = l := by simpa using h
              subst hb'
              exact ⟨hl2, lD⟩
        · obtain ⟨s3, as, hL, ha, nd, fr⟩ := p
          rw [← ml, List.take_length] at ha
          have T4 := T3.same s3
          have hDH : H D = none := free_of S2 hD
          show ({ nx := tRet _ _, rt := Q : Ends }).nx _ _
          dsimp only
          refine s_ret_of (t_tup_of (t_cons_of (ev_var rfl _ (t_cons_of (s_meth (ev_var rfl) T4.obj (mf_no _ _ _ (by simp)) ea_nil ⟨A, m, rfl, T4, fun lo uo hlo huo => ?_⟩)))))
          have T5 := T4.new (o := .lst uo) hlo
          have s5 : Same H2 (upd H' lo (.lst uo)) := fun b o e => Same.new hlo _ _ (s3 b o e)
          refine t_cons_of (s_meth (ev_var rfl) T5.obj (mf_no _ _ _ (by simp)) ea_nil ⟨A, m, rfl, T5, f.pile, fun lq H6 hlq s6 eq6 => ?_⟩)
          have T6 := T5.same s6
          refine t_cons_of (s_meth (ev_var rfl) T6.obj (mf_no _ _ _ (by simp)) ea_nil ⟨A, m, rfl, T6, ?_⟩)
          refine ⟨by show 4 ≤ sizeLine; decide, fun p hp => ?_⟩
          have sp6 : Same H6 (upd H6 p (.tup [.ref D, .ref lo, .ref lq, .bl m.strayed])) := Same.new hp
          have loD : lo ≠ D := fun z => by rw [z, hL] at hlo; cases hlo
          have hlo5 : (upd H' lo (.lst uo)) lo = some (.lst uo) := upd_same
          have hD5 : (upd H' lo (.lst uo)) D = some (.lst (as.map V.ref)) := by rw [upd_ne loD.symm]; exact hL
          have lqD : lq ≠ D := fun z => by rw [z, hD5] at hlq; cases hlq
          have lqlo : lq ≠ lo := fun z => by rw [z, hlo5] at hlq; cases hlq
          have all5 : ∀ a ∈ as, ∃ o, H' a = some o := fun a h => by obtain ⟨x, hx⟩ := All2.mem' ha h; exact ⟨_, hx⟩
          have stp : ∀ b o, H' b = some o → upd H6 p (.tup [.ref D, .ref lo, .ref lq, .bl m.strayed]) b = some o := fun b o e => sp6 _ _ (s6 _ _ (Same.new hlo _ _ e))
          refine q _ _ (fun b o e => stp b o (s3 _ _ (S2 _ _ e))) ⟨p, D, lo, lq, as, uo, rfl, upd_same, stp _ _ hL, ha.mono fun a x e => stp _ _ e, sp6 _ _ (s6 _ _ hlo5), huo.mono fun _ _ => PairAt.mono fun b xs e => stp _ _ e, sp6 _ _ eq6, ?_, ?_⟩
          · have n1 : D ∉ as := fun h => (fr D h).2 rfl
            have n2 : lo ∉ as := fun h => by obtain ⟨o, e⟩ := all5 lo h; rw [hlo] at e; cases e
            have n3 : lq ∉ as := fun h => by
              obtain ⟨o, e⟩ := all5 lq h
              have := Same.new (o := .lst uo) hlo _ _ e
              rw [hlq] at this
              cases this
            simp [n1, n2, n3, nd, loD.symm, lqD.symm, lqlo.symm]
          · intro a h
            have S3 : Same H H' := fun b o e => s3 _ _ (S2 _ _ e)
            rcases List.mem_cons.mp h with rfl | h
            · exact hDH
            rcases List.mem_cons.mp h with rfl | h
            · exact free_of S3 hlo
            rcases List.mem_cons.mp h with rfl | h
            · exact free_of (fun b o e => Same.new hlo _ _ (S3 b o e)) hlq
            · exact free_of S2 (fr a h).1
    · rintro s' H' R R' hR ⟨v, hv, a, dx, fs, e1, e2, e3, A, m, e4, T, l, g⟩
      exact ⟨v, hv, a, dx, fs, e1, e2, e3, A, m, e4, T, l, fun H1 s1 => let ⟨k, ek, r⟩ := g H1 s1; ⟨k, ek, hR _ _ r⟩⟩
end SS

set_option Elab.async false
set_option linter.all false
set_option maxRecDepth 100000
set_option maxHeartbeats 4000000
namespace SS
open PySem L2
local macro_rules | `(tactic| walk_at "q") => `(tactic| ((try dsimp only); refine s_seq ?_))

/-- what serial has so far -/
def serAt (values : List Int) (ds : List Deed) (i : Nat) : List Ans × List Int := (ds.take i).foldl serialStep ([], values)
theorem serAt_snoc {values : List Int} {ds : List Deed} {i : Nat} {d : Deed} (h : ds[i]? = some d) : serAt values ds (i + 1) = serialStep (serAt values ds i) d := by
  unfold serAt
  rw [take_snoc h, List.foldl_append]
  rfl
theorem serAt_len (values : List Int) (ds : List Deed) (i : Nat) : (serAt values ds i).1.length ≤ i ∧ (serAt values ds i).2.length ≤ values.length + i := by
  obtain ⟨h1, h2⟩ := serial_len (ds.take i) ([], values)
  have h1' : ((ds.take i).foldl serialStep ([], values)).1.length = 0 + (ds.take i).length := h1
  have h2' : ((ds.take i).foldl serialStep ([], values)).2.length ≤ values.length + (ds.take i).length := h2
  rw [List.length_take] at h1' h2'
  unfold serAt
  omega
theorem pure_serial {Z : Cs} (vs : List V) (H : Hp) (Q : VK) (E : XK) (h : sp_serial Z vs H Q E) : t_serial Z { nx := fun _ H' => Q .non H', rt := Q } (start ["values", "deeds", "now", "answers", "deed"] vs) H := by
  obtain ⟨lv, ld, values, us, ds, rfl, hv, vl, ov, hd, hus, dl, od, q⟩ := h
  unfold t_serial
  walk_at "q"
  refine s_drop' (s_call (ea_cons (ev_var rfl) ea_nil) ⟨lv, values, rfl, hv, vl, ov, ?_⟩)
  walk_at "q"
  refine s_drop' (s_call (ea_cons (ev_var rfl) (ea_cons ev_c ea_nil)) ⟨_, 0, ds, rfl, ⟨ld, us, rfl, hd, hus⟩, dl, od, ?_⟩)
  walk_at "q"
  refine s_asg_of (e_listOf (ev_var rfl) (.inl hv) fun ln hln => ?_)
  show ({ nx := _, rt := Q : Ends }).nx _ _
  walk_at "q"
  refine s_asg_of (e_lst ea_nil (by show 0 ≤ 1000; decide) fun la hla => ?_)
  show ({ nx := _, rt := Q : Ends }).nx _ _
  have nla : la ≠ ln := fun z => by rw [z, upd_same] at hla; cases hla
  have k1 : Same H (upd H ln (.lst (values.map V.int))) := Same.new hln
  have k2 : Same (upd H ln (.lst (values.map V.int))) (upd (upd H ln (.lst (values.map V.int))) la (.lst [])) := Same.new hla
  have hla0 : H la = none := free_of k1 hla
  walk_at "q"
  refine s_forL (ev_var rfl) (SqL.of (k2 _ _ (k1 _ _ hd))) (fun i s' H' => ∃ x : Option V, s' = [some (.ref lv), some (.ref ld), some (.ref ln), some (.ref la), x] ∧ Same H H' ∧ H' ln = some (.lst ((serAt values ds i).2.map V.int)) ∧ H' la = some (.lst ((serAt values ds i).1.map ansV)))
    ⟨none, rfl, Same.trans k1 k2, by rw [upd_ne nla.symm]; exact upd_same, upd_same⟩ (fun i s' H' _ ⟨_, _, c, _⟩ => SqL.of (c _ _ hd)) (fun i x s' H' hx p => ?_) (fun s' H' p => ?_)
  · obtain ⟨y, rfl, c, h1, h2⟩ := p
    have hi : i < us.length := (List.getElem?_eq_some_iff.mp hx).1
    have hdi : ds[i]? = some (ds[i]'(by rw [← hus.length]; exact hi)) := List.getElem?_eq_getElem _
    generalize ds[i]'(by rw [← hus.length]; exact hi) = dd at hdi
    obtain ⟨u, hu, p0, rfl, hp0⟩ := hus.get i hdi
    rw [hx] at hu
    cases hu
    rw [serAt_snoc hdi]
    obtain ⟨b1, b2⟩ := serAt_len values ds i
    have ul := hus.length
    generalize serAt values ds i = z at *
    dsimp only [gName]
    have sz : 2000 < sizeLine := by decide
    have hp1 := c _ _ hp0
    have n1 : decide (V.str "pop" = V.str "push") = false := by decide +kernel
    cases dd with
    | push v =>
      refine s_ifT (et_is (et_test (ev_eq (ev_ixT (ev_var rfl) ev_c (SqT.of hp1) (atI_nat (j := 0) rfl)) ev_c rfl)) (decide_eq_true rfl)) ?_
      walk_at "q"
      refine s_app (ev_var rfl) h1 (ev_ixT (ev_var rfl) ev_c (SqT.of hp1) (atI_nat (j := 1) rfl)) (by rw [List.length_map]; omega) ?_
      have c1 := same_newer c hln (o := .lst (z.2.map V.int ++ [V.int v]))
      refine s_app (ev_var rfl) (by rw [upd_ne nla]; exact h2) ev_c (by rw [List.length_map]; omega) ?_
      refine ⟨_, rfl, same_newer c1 hla0, ?_, ?_⟩
      · rw [upd_ne nla.symm, upd_same]
        simp [serialStep]
      · rw [upd_same]
        simp [serialStep, ansV]
    | pop =>
      refine s_ifF (et_is (et_test (ev_eq (ev_ixT (ev_var rfl) ev_c (SqT.of hp1) (atI_nat (j := 0) rfl)) ev_c rfl)) n1) ?_
      refine s_if_of (t_test_of (t_op_of (ev_var rfl _ (e_lst ea_nil (by show 0 ≤ 1000; decide) fun le hle => ⟨.list (z.2.map PyData.int), .list [], .lst (SqL.of (Same.new hle _ _ h1)) (dp_ints _), .lst (SqL.of upd_same) .nil, shaped_ints _, rfl, ⟨_, rfl, ?_⟩⟩))))
      have e1 : ∀ xs : List Int, PyData.eqv (.list (xs.map PyData.int)) (.list []) = xs.isEmpty := by
        intro xs
        cases xs with
        | nil => rfl
        | cons a l => rfl
      rw [e1]
      have c1 : Same H (upd H' le (.lst [])) := fun b o e => Same.new hle _ _ (c b o e)
      have h1' := Same.new (o := .lst []) hle _ _ h1
      have h2' := Same.new (o := .lst []) hle _ _ h2
      generalize upd H' le (.lst []) = H5 at c1 h1' h2' ⊢
      obtain ⟨a, w⟩ := z
      cases hw : w.getLast? with
      | none =>
        have ew : w = [] := List.getLast?_eq_none_iff.mp hw
        subst ew
        refine iteT ?_
        refine s_app (ev_var rfl) h2' ev_c (by rw [List.length_map]; have : a.length ≤ i := b1; omega) ?_
        refine ⟨_, rfl, same_newer c1 hla0, ?_, ?_⟩
        · rw [upd_ne nla.symm]
          exact h1'
        · rw [upd_same]
          simp [serialStep, ansV]
      | some v =>
        have ew : w = w.dropLast ++ [v] := by
          obtain ⟨l, hl⟩ := List.getLast?_eq_some_iff.mp hw
          rw [hl]
          simp
        have ne : w.isEmpty = false := by
          rw [ew]
          simp
        rw [ne]
        refine iteF ?_
        have h1'' : H5 ln = some (.lst (w.dropLast.map V.int ++ [V.int v])) := by
          have : w.map V.int = w.dropLast.map V.int ++ [V.int v] := by
            conv => lhs; rw [ew]
            simp
          rw [← this]
          exact h1'
        refine s_appX (ev_var rfl) h2' (ev_var (v := .ref ln) rfl _ ⟨Or.inl ⟨rfl, _, SqL.of h1''⟩, ?_⟩)
        refine ⟨ln, _, V.int v, rfl, rfl, h1'', by simp, ?_⟩
        rw [List.dropLast_concat]
        have c6 := same_newer c1 hln (o := .lst (w.dropLast.map V.int))
        refine ⟨_, by rw [upd_ne nla]; exact h2', by rw [List.length_map]; have : a.length ≤ i := b1; omega, ?_⟩
        refine ⟨_, rfl, same_newer c6 hla0, ?_, ?_⟩
        · rw [upd_ne nla.symm, upd_same]
          simp [serialStep, hw]
        · rw [upd_same]
          simp [serialStep, hw, ansV]
  · obtain ⟨y, rfl, c, h1, h2⟩ := p
    have ul := hus.length
    rw [ul] at h1 h2
    have e : serAt values ds ds.length = serial values ds := by
      unfold serAt serial
      rw [List.take_length]
    rw [e] at h1 h2
    dsimp only
    refine s_ret_of (e_tup (ea_cons (ev_var rfl) (ea_cons (ev_var rfl) ea_nil)) (by show 2 ≤ 1000; decide) fun p hp => ?_)
    have k : Same H' (upd H' p (.tup [.ref la, .ref ln])) := Same.new hp
    exact q p la ln _ (Same.trans c k) (free_of c hp) hla0 hln nla upd_same (k _ _ h2) (k _ _ h1)
end SS

set_option Elab.async false
set_option linter.all false
set_option maxRecDepth 100000
set_option maxHeartbeats 4000000
namespace SS
open PySem PySem.Spec PyProof.Rows L2
section
variable {X : Cx}
/-- xs[::k], k one or less one -/
def tStepL (K : PySem.W.Frag) (te ts : TE) : TE := fun σ H Q => te σ H fun x H1 => tPart ts σ H1 fun o H2 => ∃ a xs k, x = .ref a ∧ o = some k ∧ SqL K H2 a xs ∧ (k = 1 ∨ k = -1) ∧ ∀ p, H2 p = none → Q (.ref p) (upd H2 p (.lst (if k = 1 then xs else xs.reverse)))
theorem pe_stepL {e st : Expr} {te ts : TE} {p3 pos : Pos} (he : PE X e te) (hst : PE X st ts) (hsub : ∀ a b, subscripted (.Slice none none (some st) p3) false a b = operate [a, b] (getItem a b) := by intro _ _; rfl) : PE X (.Subscript e (.Slice none none (some st) p3) pos) (tStepL X.K te ts) := by
  refine ⟨fun pins s σ H Q I h => ?_⟩
  refine Subscript_ (thn (he.run pins s σ H _ I h) fun v s1 ⟨x, H1, I1, r1, q1⟩ => ?_)
  refine wpAny_Slice (thn (po_none.run pins s1 σ H1 (fun o H2 => o = none ∧ H2 = H1) I1 ⟨rfl, rfl⟩) fun vl s2 ⟨l, H2, I2, pl, el, e2⟩ => ?_)
  subst el e2
  refine thn (po_none.run pins s2 σ H2 (fun o H3 => o = none ∧ H3 = H2) I2 ⟨rfl, rfl⟩) fun vu s3 ⟨u, H3, I3, pu, eu, e3⟩ => ?_
  subst eu e3
  refine thn ((po_some hst).run pins s3 σ H3 (fun o H4 => ∃ a xs k, x = .ref a ∧ o = some k ∧ SqL X.K H4 a xs ∧ (k = 1 ∨ k = -1) ∧ ∀ p, H4 p = none → Q (.ref p) (upd H4 p (.lst (if k = 1 then xs else xs.reverse)))) I3 q1) fun vs s4 ⟨o, H4, I4, ps, a, xs, kk, ex, eo, hx, hk, q⟩ => ?_
  subst eo ex
  cases r1
  have I5 : Inv X pins σ H4 { s4 with heap := s4.heap.push { cls := .type "slice", data := .fields #[vl, vu, vs] } } := I4.kept (t' := s4.toks) fun b ob q => Heap.get?_push_of_some _ q
  obtain ⟨its, r, ht, hz⟩ := I5.list hx
  have hlen := r.length
  show wpAny (model X.prog X.w) X.A (subscriptTail e (.Slice none none (some st) p3) (.ref a) (.ref s4.heap.objs.size)) (EP X pins σ Q) X.xe { s4 with heap := s4.heap.push { cls := .type "slice", data := .fields #[vl, vu, vs] } }
  refine tail_any (ops := [.ref a, .ref s4.heap.objs.size]) ht.isList.typeIs (PySem.slot_list_getitem.lookup) ?_ (hsub _ _)
  refine wpAny_getItem_list_slice ht.isList (Heap.IsSliceOf.new _ vl vu vs) pl pu ps (by rcases hk with rfl | rfl <;> decide) ?_ (by rw [List.size_toArray]; omega)
  rcases hk with rfl | rfl
  · have e1 : slicePick its.toArray none none (some 1) = its.toArray := by
      have e2 : slicePick its.toArray none none (some 1) = slicePick its.toArray none none none := rfl
      rw [e2, slicePick_cut]
      simp [HT.sIx]
    rw [e1]
    refine ⟨.ref _, _, I5.laid (t' := s4.toks) (o := .lst xs) (fun b ob q => Heap.get?_push_of_some _ q) (Nat.le_refl _) ?_, rfl, ?_⟩
    · exact ⟨hz, _, 0, r, Heap.get?_push_size _ rfl⟩
    · have q' := q _ (I5.hok.fresh (Nat.le_refl _))
      rw [if_pos rfl] at q'
      exact q'
  · rw [PySem.W.krv_pick]
    refine ⟨.ref _, _, I5.laid (t' := s4.toks) (o := .lst xs.reverse) (fun b ob q => Heap.get?_push_of_some _ q) (Nat.le_refl _) ?_, rfl, ?_⟩
    · exact ⟨by rw [List.length_reverse]; exact hz, _, 0, r.reverse, Heap.get?_push_size _ rfl⟩
    · have q' := q _ (I5.hok.fresh (Nat.le_refl _))
      rw [if_neg (by decide)] at q'
      exact q'
end
end SS

set_option Elab.async false
set_option linter.all false
set_option maxRecDepth 100000
set_option maxHeartbeats 4000000
namespace SS
open PySem L2
local macro_rules | `(tactic| walk_at "q") => `(tactic| ((try dsimp only); refine s_seq ?_))

open PySem.Spec PyProof.Rows
/-- x in a tuple of data of any depth -/
def rInDT (K : PySem.W.Frag) : R2 := fun x y H Q => ∃ d ds, Dp K H x d ∧ Dp K H y (.tuple ds) ∧ SeqAt.shaped d = true ∧ SeqAt.shaped (.tuple ds) = true ∧ Q (.bl (ds.any fun z => PyData.eqv z d)) H
theorem room_inT {d : PyData} {ds : List PyData} {u : Nat} (s : SeqAt.shaped d = true) (hu : u + 65 < cLine) : u + 1 + min (PyData.depthAll ds) d.depth < cLine := by
  have h : d.depth ≤ 64 := by
    have := (Bool.and_eq_true _ _ ▸ (show (d.canLay0 && decide (d.depth ≤ 64)) = true from s)).2
    exact of_decide_eq_true this
  have := Nat.min_le_right (PyData.depthAll ds) d.depth
  omega
theorem op_inDT {X : Cx} (hu : X.A.units + 65 < cLine) : OpR X (compareOp .In) (rInDT X.K) := by
  intro pins s σ H x y v u Q I rx ry h
  obtain ⟨d, ds, hd, he, sd, se, q⟩ := h
  obtain ⟨as, r1⟩ := Dp.reads I d x v hd rx
  obtain ⟨bs, r2⟩ := Dp.reads I (.tuple ds) y u he ry
  exact SeqAt.in_tuple_reads r2 r1 (by have := SeqAt.canLay_of_shaped se; simpa [PyData.canLay0] using this) (SeqAt.canLay_of_shaped sd) (room_inT sd hu) ⟨.bl _, H, I, rfl, q⟩
end SS
namespace L2
open PySem
theorem Room.u65 {k : Nat} {A : Around} (r : Room k A) : A.units + 65 < cLine := by have := r.un; omega
end L2

set_option Elab.async false
set_option linter.all false
set_option maxRecDepth 100000
set_option maxHeartbeats 4000000
namespace SS
open PySem L2
open PySem.Spec PyProof.Rows
/-- a list of anything against an empty one -/
def rEqE (K : PySem.W.Frag) : R2 := fun x y H Q => ∃ a b xs, x = .ref a ∧ y = .ref b ∧ SqL K H a xs ∧ SqL K H b [] ∧ Q (.bl xs.isEmpty) H
theorem op_eqE {X : Cx} (hu : X.A.units + 64 < cLine) : OpR X (compareOp .Eq) (rEqE X.K) := by
  intro pins s σ H x y v u Q I rx ry h
  obtain ⟨a, b, xs, rfl, rfl, ha, hb, q⟩ := h
  cases rx
  cases ry
  obtain ⟨ia, ra, hl, _⟩ := I.list ha
  obtain ⟨ib, rb, hl', _⟩ := I.list hb
  cases rb
  cases ra with
  | nil => exact SeqAt.RcAt.lists (e := fun _ => true) hl.isList hl'.isList rfl (by omega) (fun j j1 j2 => absurd j1 (by simp)) X.prog X.w _ _ ⟨.bl _, H, I, rfl, q⟩
  | cons r1 r2 => exact SeqAt.RcAt.lists_lengths hl.isList hl'.isList (by simp) (by omega) X.prog X.w _ _ ⟨.bl _, H, I, rfl, q⟩
end SS

set_option Elab.async false
set_option linter.all false
set_option maxRecDepth 100000
set_option maxHeartbeats 4000000
namespace SS
open PySem L2
open PySem.Spec PyProof.Rows
def isN : Value → Bool
  | .none => true
  | _ => false
theorem isN_count : ∀ {as : List Ans} {us : List Value}, Vals (as.map ansV) us → us.countP isN = as.count .non
  | [], _, h => by
    cases h
    rfl
  | a :: as, _, h => by
    rw [List.map_cons] at h
    cases h with
    | cons r1 r2 =>
    rename_i u us
    have ih := isN_count r2
    rw [List.countP_cons, List.count_cons, ih]
    cases a with
    | non =>
      cases (show u = Value.none from r1)
      rfl
    | done =>
      obtain ⟨t, e⟩ := (show ∃ t, u = Value.str "done" t from r1)
      cases e
      rfl
    | val v =>
      obtain ⟨t, e⟩ := (show ∃ t, u = Value.int v t from r1)
      cases e
      rfl
theorem isN_at {A : Around} {s : Shared} : ∀ {as : List Ans} {us : List Value}, Vals (as.map ansV) us → ∀ y ∈ us, SeqAt.EqAt A s y .none (isN y)
  | [], _, h, y, hy => by
    cases h
    cases hy
  | a :: as, _, h, y, hy => by
    rw [List.map_cons] at h
    cases h with
    | @cons _ _ u us r1 r2 =>
    rcases List.mem_cons.mp hy with e | hy
    · subst e
      cases a with
      | non =>
        cases (show y = Value.none from r1)
        exact SeqAt.EqAt.same _
      | done =>
        obtain ⟨t, e⟩ := (show ∃ t, y = Value.str "done" t from r1)
        cases e
        exact SeqAt.EqAt.str_none _ _
      | val v =>
        obtain ⟨t, e⟩ := (show ∃ t, y = Value.int v t from r1)
        cases e
        exact SeqAt.EqAt.int_none _ _
    · exact isN_at r2 y hy
/-- xs.count(None), of answers -/
def rCntN (K : PySem.W.Frag) : V → List V → Hp → VK → Prop := fun x xs H Q => ∃ (p : Addr) (as : List Ans), x = .ref p ∧ xs = [.non] ∧ SqL K H p (as.map ansV) ∧ Q (.int (as.count .non : Nat)) H
theorem mt_lcountN {X : Cx} : MtR X "list.count" (rCntN X.K) := by
  intro pins s σ H x xs v us Q I rx rxs h
  obtain ⟨p, as, rfl, rfl, hs, q⟩ := h
  cases rx
  obtain ⟨u, rfl, ru⟩ := rxs.one
  cases (show u = Value.none from ru)
  obtain ⟨its, rv, ⟨⟨cls, dd, data, sl⟩, n, ho, hc, hdn, hd⟩, hlen⟩ := I.list hs
  simp only at hc hd
  subst hc hd
  refine call_meets PySem.F.slot_list_count ⟨_, ho, rfl⟩ PySem.F.entry_list_count (PySem.F.args_list_count_2 _ _)
    (SeqAt.list_countAt p its.toArray n dd sl .none isN) ⟨ho, fun y hy => isN_at rv y (by simpa using hy), ?_⟩
  have ec : its.toArray.toList.countP isN = as.count .non := isN_count rv
  refine ⟨.int (as.count .non : Nat), H, I.tok _, ⟨s.toks, ?_⟩, q⟩
  show Value.int ((its.toArray.toList.countP isN : Nat) : Int) s.toks = Value.int ((as.count .non : Nat) : Int) s.toks
  rw [ec]
end SS

set_option Elab.async false
set_option linter.all false
set_option maxRecDepth 100000
set_option maxHeartbeats 4000000
namespace SS
open PySem L2
local macro_rules | `(tactic| walk_at "q") => `(tactic| ((try dsimp only); refine s_seq ?_))

/-- the script, locked or the module's -/
def ScrAt (K : PySem.W.Frag) (H : Hp) (a : Addr) (xs : List V) : Prop := (∃ o, H a = some (.frz o (.lst xs))) ∨ ∃ (o : Obj) (its : Array Value) (n : Nat), K.lookup a = some o ∧ o.cls = .type "list" ∧ o.dict = none ∧ o.data = .seq its n ∧ its.size ≤ sizeLine ∧ Vals xs its.toList
theorem ScrAt.seq {K : PySem.W.Frag} {H : Hp} {a : Addr} {xs : List V} (h : ScrAt K H a xs) : SqL K H a xs := by
  rcases h with ⟨o, h⟩ | h
  · exact .inl (.inr ⟨o, h⟩)
  · exact .inr h
theorem ScrAt.chg {K : PySem.W.Frag} {F : Addr → Prop} {H H' : Hp} {a : Addr} {xs : List V} (h : ScrAt K H a xs) (c : Chg F H H') : ScrAt K H' a xs := by
  rcases h with ⟨o, h⟩ | h
  · exact .inl ⟨o, c.frz h⟩
  · exact .inr h
theorem ScrAt.of {K : PySem.W.Frag} {H : Hp} {a : Addr} {xs : List V} (hO : Only H) (h : SqL K H a xs) : ScrAt K H a xs := by
  rcases h with (h | ⟨o, h⟩) | h
  · rcases hO a with z | ⟨o, ys, z⟩ <;> rw [h] at z <;> cases z
  · exact .inl ⟨o, h⟩
  · exact .inr h
/-! ### the dice: a list of four; what is drawn is any number in its bounds -/
def DiceAt (K : PySem.W.Frag) (H : Hp) (d : Addr) : Prop := ∃ (sc : Addr) (ns : List Int) (a b c : Int), H d = some (.lst [.ref sc, .int a, .int b, .int c]) ∧ ScrAt K H sc (ns.map V.int) ∧ 0 ≤ a
abbrev Dc (d : Addr) : Addr → Prop := fun a => a = d
/-- programs in lists -/
def PgAt (H : Hp) (l : Addr) (ps : List (List Deed)) : Prop := ∃ us, H l = some (.lst us) ∧ All2 (ProgAt H) us ps
def sp_L_dice (Z : Cs) : Sp := fun vs H Q _ => ∃ (sc : Addr) (ns : List Int), vs = [.ref sc] ∧ ScrAt Z.K H sc (ns.map V.int) ∧ ∀ d H', H d = none → Same H H' → DiceAt Z.K H' d → Q (.ref d) H'
def sp_L_next (Z : Cs) : Sp := fun vs H Q _ => ∃ (d : Addr) (m : Nat), vs = [.ref d, .int m] ∧ DiceAt Z.K H d ∧ 0 < m ∧ m < 1073741824 ∧ ∀ (r : Nat) H', r < m → Chg (Dc d) H H' → DiceAt Z.K H' d → Q (.int r) H'
def sp_L_values (Z : Cs) : Sp := fun vs H Q _ => ∃ (d : Addr) (m : Nat), vs = [.ref d, .int m] ∧ DiceAt Z.K H d ∧ m ≤ 1000 ∧
  ∀ l (ns : List Int) H', H l = none → Chg (Dc d) H H' → DiceAt Z.K H' d → H' l = some (.lst (ns.map V.int)) → ns.length ≤ m → (∀ v ∈ ns, okVal v) → Q (.ref l) H'
def sp_L_deed (Z : Cs) : Sp := fun vs H Q _ => ∃ (d : Addr), vs = [.ref d] ∧ DiceAt Z.K H d ∧ ∀ v (e : Deed) H', Chg (Dc d) H H' → DiceAt Z.K H' d → DeedAt H' v e → okDeed e → Q v H'
def sp_L_programs (Z : Cs) : Sp := fun vs H Q _ => ∃ (d : Addr) (hn dn : Nat), vs = [.ref d, .int hn, .int dn] ∧ DiceAt Z.K H d ∧ 1 ≤ hn ∧ hn ≤ 3 ∧ dn ≤ 4 ∧
  ∀ l ps H', H l = none → Chg (Dc d) H H' → DiceAt Z.K H' d → PgAt H' l ps → 1 ≤ ps.length → ps.length ≤ hn → (∀ p ∈ ps, p.length ≤ 4) → (∀ p ∈ ps, ∀ e ∈ p, okDeed e) → Q (.ref l) H'
def sp_L_rule (Z : Cs) : Sp := fun vs H Q _ => ∃ (d : Addr) (many : Nat), vs = [.ref d, .int many] ∧ DiceAt Z.K H d ∧ many ≤ 1000 ∧ ∀ a r H', Chg (Dc d) H H' → DiceAt Z.K H' d → RuleAt H' a r → okRule many r → Q (.ref a) H'
def sp_L_weaving (Z : Cs) : Sp := fun vs H Q _ => ∃ (d : Addr) (many most : Nat), vs = [.ref d, .int many, .int most] ∧ DiceAt Z.K H d ∧ 1 ≤ many ∧ many ≤ 1000 ∧ 1 ≤ most ∧ most ≤ 1000 ∧
  ∀ l (w : List Nat) H', H l = none → Chg (Dc d) H H' → DiceAt Z.K H' d → H' l = some (.lst (w.map natV)) → (∀ h ∈ w, h < many) → w.length ≤ 5 * most → Q (.ref l) H'

/-! ### readings (printed) -/
/-- _law_dice: 0 _law_script, 1 _law_mixed, 2 _law_cell_here -/
def t_L_dice (Z : Cs) : TS :=
  tSeq (tAsg (tC (.int 0)) (gName 1))
    (tSeq (tFor (iList Z.K (tVar 0)) (gName 2) ((tAsg (tOp rModI (tOp rAddI (tOp rAddI (tOp rMulI (tVar 1) (tC (.int 48271))) (tOp rMulI (tOp rModI (tVar 2) (tC (.int 2147483647))) (tC (.int 69621)))) (tC (.int 11))) (tC (.int 2147483647))) (gName 1))))
    ((tRet (tLst (tCons (tVar 0) (tCons (tC (.int 0)) (tCons (tOp rMulI (tVar 1) (tCB rInt1 (tCons (tOp rGtI (tCB (rLen1 Z.K) (tCons (tVar 0) tNil)) (tC (.int 2))) tNil))) (tCons (tC (.int 0)) tNil))))))))
/-- _law_next: 0 _law_dice_here, 1 _law_many, 2 _law_found, 3 _law_cell_here -/
def t_L_next (Z : Cs) : TS :=
  tSeq (tIfS (tTest (tOp rGtI (tOp (rIxL Z.K) (tVar 0) (tC (.int 3))) (tC (.int 0)))) (tSeq (tAsg (tOp rModI (tOp (rIxL Z.K) (tVar 0) (tC (.int 3))) (tVar 1)) (gName 2))
    (tSeq (tAsg (tOp rFdivI (tOp (rIxL Z.K) (tVar 0) (tC (.int 3))) (tVar 1)) (gSub (tVar 0) (tC (.int 3)) rSetL))
    ((tRet (tVar 2))))) (tNext))
    (tSeq (tAsg (tOp rAddI (tOp (rIxL Z.K) (tVar 0) (tC (.int 1))) (tC (.int 1))) (gSub (tVar 0) (tC (.int 1)) rSetL))
    (tSeq (tIfS (tTest (tOp rLeI (tOp (rIxL Z.K) (tVar 0) (tC (.int 1))) (tCB (rLen1 Z.K) (tCons (tOp (rIxL Z.K) (tVar 0) (tC (.int 0))) tNil)))) (tSeq (tAsg (tOp (rIxL Z.K) (tOp (rIxL Z.K) (tVar 0) (tC (.int 0))) (tOp rSubI (tOp (rIxL Z.K) (tVar 0) (tC (.int 1))) (tC (.int 1)))) (gName 3))
    (tSeq (tAsg (tIf (tTest (tOp rGeI (tVar 3) (tOp rPowI (tC (.int 10)) (tC (.int 18))))) (tOp rFdivI (tVar 3) (tVar 1)) (tC (.int 0))) (gSub (tVar 0) (tC (.int 3)) rSetL))
    ((tRet (tOp rModI (tVar 3) (tVar 1)))))) (tNext))
    (tSeq (tAsg (tOp rModI (tOp rMulI (tOp (rIxL Z.K) (tVar 0) (tC (.int 2))) (tC (.int 48271))) (tC (.int 2147483647))) (gSub (tVar 0) (tC (.int 2)) rSetL))
    ((tRet (tOp rModI (tOp rFdivI (tOp (rIxL Z.K) (tVar 0) (tC (.int 2))) (tC (.int 7))) (tVar 1)))))))
/-- _law_values: 0 _law_d, 1 _law_most, 2 _law_k -/
def t_L_values (Z : Cs) : TS :=
  (tRet (tLc (iRng1 (tCons (tCall (sp_L_next Z) [] E0 (tCons (tVar 0) (tCons (tOp rAddI (tVar 1) (tC (.int 1))) tNil))) tNil)) (gName 2) tYes (tCall (sp_L_next Z) [] E0 (tCons (tVar 0) (tCons (tC (.int 100)) tNil))) [2]))
/-- _law_deed: 0 _law_d -/
def t_L_deed (Z : Cs) : TS :=
  tSeq (tIfS (tTest (tOp rEq (tCall (sp_L_next Z) [] E0 (tCons (tVar 0) (tCons (tC (.int 3)) tNil))) (tC (.int 1)))) ((tRet (tTup (tCons (tC (.str "push")) (tCons (tCall (sp_L_next Z) [] E0 (tCons (tVar 0) (tCons (tC (.int 100)) tNil))) tNil))))) (tNext))
    ((tRet (tTup (tCons (tC (.str "pop")) tNil))))
/-- _law_programs: 0 _law_d, 1 _law_hands, 2 _law_deeds, 3 _law_rows, 4 _law_k, 5 _law_hand -/
def t_L_programs (Z : Cs) : TS :=
  tSeq (tIfS ((tAnd (tTest (tOp rGtI (tVar 1) (tC (.int 1)))) (tTest (tOp rEq (tCall (sp_L_next Z) [] E0 (tCons (tVar 0) (tCons (tC (.int 3)) tNil))) (tC (.int 2)))))) (tSeq (tAsg (tLst (tCons (tLst (tCons (tTup (tCons (tC (.str "pop")) tNil)) tNil)) (tCons (tLst (tCons (tTup (tCons (tC (.str "pop")) tNil)) (tCons (tTup (tCons (tC (.str "pop")) tNil)) (tCons (tTup (tCons (tC (.str "push")) (tCons (tCall (sp_L_next Z) [] E0 (tCons (tVar 0) (tCons (tC (.int 100)) tNil))) tNil))) tNil)))) tNil))) (gName 3))
    (tSeq (tDrop (tBM Z.K "list" rInsert (tOp (rIxL Z.K) (tVar 3) (tCall (sp_L_next Z) [] E0 (tCons (tVar 0) (tCons (tC (.int 2)) tNil)))) (tCons (tC (.int 0)) (tCons (tCall (sp_L_deed Z) [] E0 (tCons (tVar 0) tNil)) tNil))))
    ((tRet (tStepL Z.K (tVar 3) (tOp (rIxL Z.K) (tLst (tCons (tC (.int 1)) (tCons (tUn rNegI (tC (.int 1))) tNil))) (tCall (sp_L_next Z) [] E0 (tCons (tVar 0) (tCons (tC (.int 2)) tNil))))))))) (tNext))
    ((tRet (tLc (iRng1 (tCons (tOp rAddI (tC (.int 1)) (tCall (sp_L_next Z) [] E0 (tCons (tVar 0) (tCons (tVar 1) tNil)))) tNil)) (gName 5) tYes (tLc (iRng1 (tCons (tCall (sp_L_next Z) [] E0 (tCons (tVar 0) (tCons (tOp rAddI (tVar 2) (tC (.int 1))) tNil))) tNil)) (gName 4) tYes (tCall (sp_L_deed Z) [] E0 (tCons (tVar 0) tNil)) [4]) [5])))
/-- _law_rule: 0 _law_d, 1 _law_many, 2 _law_kind, 3 _law_hand -/
def t_L_rule (Z : Cs) : TS :=
  tSeq (tAsg (tCall (sp_L_next Z) [] E0 (tCons (tVar 0) (tCons (tC (.int 4)) tNil))) (gName 2))
    (tSeq (tIfS (tTest (tOp rLtI (tVar 2) (tC (.int 2)))) ((tRet (tTup (tCons (tC (.str "counts")) (tCons (tOp rAddI (tC (.int 1)) (tCall (sp_L_next Z) [] E0 (tCons (tVar 0) (tCons (tOp (rIxL Z.K) (tLst (tCons (tC (.int 3)) (tCons (tC (.int 15)) tNil))) (tCall (sp_L_next Z) [] E0 (tCons (tVar 0) (tCons (tC (.int 2)) tNil)))) tNil)))) tNil))))) (tNext))
    (tSeq (tIfS (tTest (tOp rEq (tVar 2) (tC (.int 2)))) ((tRet (tTup (tCons (tC (.str "marks")) (tCons (tCB (rTupleOf Z.K) (tCons (tLc (iRng1 (tCons (tVar 1) tNil)) (gName 3) (tTest (tOp rEq (tCall (sp_L_next Z) [] E0 (tCons (tVar 0) (tCons (tC (.int 2)) tNil))) (tC (.int 1)))) (tVar 3) [3]) tNil)) tNil))))) (tNext))
    ((tRet (tTup (tCons (tC (.str "keeps")) tNil))))))
/-- _law_weaving: 0 _law_d, 1 _law_many, 2 _law_most, 3 _law_weaving_here, 4 _law_k -/
def t_L_weaving (Z : Cs) : TS :=
  tSeq (tAsg (tLst tNil) (gName 3))
    (tSeq (tFor (iRng1 (tCons (tCall (sp_L_next Z) [] E0 (tCons (tVar 0) (tCons (tVar 2) tNil))) tNil)) (gName 4) ((tAsg (tOp rCat (tVar 3) (tOp rRep (tLst (tCons (tCall (sp_L_next Z) [] E0 (tCons (tVar 0) (tCons (tVar 1) tNil))) tNil)) (tOp rAddI (tC (.int 1)) (tCall (sp_L_next Z) [] E0 (tCons (tVar 0) (tCons (tC (.int 5)) tNil)))))) (gName 3))))
    ((tRet (tVar 3))))
end SS

set_option Elab.async false
set_option linter.all false
set_option maxRecDepth 100000
set_option maxHeartbeats 4000000
namespace SS
open PySem L2
local macro_rules | `(tactic| walk_at "q") => `(tactic| ((try dsimp only); refine s_seq ?_))

theorem DiceAt.ne {K : PySem.W.Frag} {H : Hp} {d D : Addr} (x : DiceAt K H d) (h : H D = none) : D ≠ d := by
  obtain ⟨sc, ns, a, b, c, h1, _⟩ := x
  exact fun e => by rw [e, h1] at h; cases h
theorem Chg.ne {d : Addr} {H H' : Hp} (c : Chg (Dc d) H H') {b : Addr} {o : HO} (h : H b = some o) (n : b ≠ d) : H' b = some o := c.keep b o h n
theorem Chg.free {d : Addr} {H H' : Hp} {K : PySem.W.Frag} (c : Chg (Dc d) H H') (x : DiceAt K H' d) {b : Addr} (h : H' b = none) : H b = none := by
  cases z : H b with
  | none => rfl
  | some o =>
    have := c.keep b o z (x.ne h)
    rw [h] at this
    cases this
theorem DiceAt.chg {K : PySem.W.Frag} {F : Addr → Prop} {H H' : Hp} {d : Addr} (x : DiceAt K H d) (c : Chg F H H') (n : ¬ F d) : DiceAt K H' d := by
  obtain ⟨sc, ns, a, b, e, h1, h2, h3⟩ := x
  exact ⟨sc, ns, a, b, e, c.keep _ _ h1 n, h2.chg c, h3⟩
theorem DiceAt.same {K : PySem.W.Frag} {H H' : Hp} {d : Addr} (x : DiceAt K H d) (c : Same H H') : DiceAt K H' d := x.chg (F := fun _ => False) (Chg.same c) fun z => z
theorem chg_put {H : Hp} {d : Addr} {xs : List V} {o : HO} (h : H d = some (.lst xs)) : Chg (Dc d) H (upd H d o) := Chg.put rfl fun u e => by rw [h] at e; cases e; exact fun z => z
theorem DiceAt.put {K : PySem.W.Frag} {H : Hp} {d : Addr} {sc : Addr} {ns : List Int} {a b c : Int} {xs : List V} (h2 : ScrAt K H sc (ns.map V.int)) (hd : H d = some (.lst xs)) (h3 : 0 ≤ a) : DiceAt K (upd H d (.lst [.ref sc, .int a, .int b, .int c])) d :=
  ⟨sc, ns, a, b, c, upd_same, h2.chg (chg_put hd), h3⟩
theorem lcm_ {a : Int} : CMul a 48271 := .inr ⟨by decide, by decide⟩
theorem pure_L_dice {Z : Cs} (vs : List V) (H : Hp) (Q : VK) (E : XK) (h : sp_L_dice Z vs H Q E) : t_L_dice Z { nx := fun _ H' => Q .non H', rt := Q } (start ["_law_script", "_law_mixed", "_law_cell_here"] vs) H := by
  obtain ⟨sc, ns, rfl, S, q⟩ := h
  have L := S.seq
  unfold t_L_dice
  walk_at "q"
  refine s_asg ev_c ?_
  walk_at "q"
  refine s_forL (ev_var rfl) L (fun i s' H' => H' = H ∧ ∃ (x : Int) (w : Option V), s' = [some (.ref sc), some (.int x), w]) ⟨rfl, 0, none, rfl⟩ (fun i s' H' _ p => by rw [p.1]; exact L) ?_ ?_
  · rintro i y s' H' hy ⟨rfl, x, w, rfl⟩
    obtain ⟨n, hn, rfl⟩ := map_get hy
    refine s_asg (ev_mod (ev_add (ev_add (ev_mul (ev_var rfl) ev_c (.inr ⟨by decide, by decide⟩)) (ev_mul (ev_mod (ev_var rfl) ev_c (by decide)) ev_c (.inr ⟨by decide, by decide⟩))) ev_c) ev_c (by decide)) ⟨rfl, _, _, rfl⟩
  · rintro s' H' ⟨rfl, x, w, rfl⟩
    dsimp only
    refine e_lst (ea_cons (ev_var rfl) (ea_cons ev_c (ea_cons (ev_mul (ev_var rfl) (ev_int1 (ev_gt (ev_lenL (ev_var rfl) L) ev_c)) (.inr ?_)) (ea_cons ev_c ea_nil)))) (by show 4 ≤ 1000; decide) fun d hd => ?_
    · split <;> decide
    · refine q d _ hd (Same.new hd) ⟨sc, ns, 0, _, 0, upd_same, S.chg (F := fun _ => False) (Chg.same (Same.new hd)), Int.le_refl _⟩
theorem ev_d {K : PySem.W.Frag} {H : Hp} {s : L2.St} {n : Nat} {d : Addr} {xs : List V} {j : Nat} {v : V} (h : s[n]? = some (some (.ref d))) (hd : H d = some (.lst xs)) (hv : xs[j]? = some v) : Ev (tOp (rIxL K) (tVar n) (tC (.int j))) s H v :=
  ev_ixL (ev_var h) ev_c (SqL.of hd) (atI_nat hv)
theorem cdiv {i : Int} {m : Nat} (h1 : 0 < m) (h2 : m < 1073741824) : CDiv i m := ⟨by omega, by omega⟩
theorem modN {i : Int} {m : Nat} (h : 0 < m) : ∃ r : Nat, i % (m : Int) = r ∧ r < m := by
  have h1 := Int.emod_nonneg i (show (m : Int) ≠ 0 by omega)
  have h2 := Int.emod_lt_of_pos i (show (0 : Int) < m by omega)
  exact ⟨(i % (m : Int)).toNat, by omega, by omega⟩
theorem pure_L_next {Z : Cs} (vs : List V) (H : Hp) (Q : VK) (E : XK) (h : sp_L_next Z vs H Q E) : t_L_next Z { nx := fun _ H' => Q .non H', rt := Q } (start ["_law_dice_here", "_law_many", "_law_found", "_law_cell_here"] vs) H := by
  obtain ⟨d, m, rfl, ⟨sc, ns, a, b, c, hd, hS, ha⟩, hm, hm2, q⟩ := h
  unfold t_L_next
  have e1 : ∀ {s : L2.St} {H : Hp}, s[0]? = some (some (.ref d)) → ∀ {a b c : Int}, H d = some (.lst [.ref sc, .int a, .int b, .int c]) → Ev (tOp (rIxL Z.K) (tVar 0) (tC (.int 1))) s H (.int a) := fun h _ _ _ hd => ev_d (j := 1) h hd rfl
  have e2 : ∀ {s : L2.St} {H : Hp}, s[0]? = some (some (.ref d)) → ∀ {a b c : Int}, H d = some (.lst [.ref sc, .int a, .int b, .int c]) → Ev (tOp (rIxL Z.K) (tVar 0) (tC (.int 2))) s H (.int b) := fun h _ _ _ hd => ev_d (j := 2) h hd rfl
  have e3 : ∀ {s : L2.St} {H : Hp}, s[0]? = some (some (.ref d)) → ∀ {a b c : Int}, H d = some (.lst [.ref sc, .int a, .int b, .int c]) → Ev (tOp (rIxL Z.K) (tVar 0) (tC (.int 3))) s H (.int c) := fun h _ _ _ hd => ev_d (j := 3) h hd rfl
  walk_at "q"
  refine s_if (et_test (ev_gt (e3 rfl hd) ev_c)) (fun e => ?_) (fun e => ?_)
  · walk_at "q"
    refine s_asg (ev_mod (e3 rfl hd) (ev_var rfl) (by omega)) ?_
    walk_at "q"
    refine s_setL (i := 3) (j := 3) (ev_fdiv (e3 rfl hd) (ev_var rfl) (cdiv hm hm2)) (ev_var rfl) ev_c hd rfl ?_
    obtain ⟨r, er, hr⟩ := modN (i := c) hm
    dsimp only
    exact s_ret (ev_is (ev_var rfl) (by rw [er])) (q r _ hr (chg_put hd) (.put hS hd ha))
  · dsimp only [tNext]
    walk_at "q"
    refine s_setL (i := 1) (j := 1) (ev_add (e1 rfl hd) ev_c) (ev_var rfl) ev_c hd rfl ?_
    have hd1 : upd H d (.lst [.ref sc, .int (a + 1), .int b, .int c]) d = some (.lst [.ref sc, .int (a + 1), .int b, .int c]) := upd_same
    have hS1 : SqL Z.K (upd H d (.lst [.ref sc, .int (a + 1), .int b, .int c])) sc (ns.map V.int) := (hS.chg (chg_put hd)).seq
    have c1 : Chg (Dc d) H (upd H d (.lst [.ref sc, .int (a + 1), .int b, .int c])) := chg_put hd
    show ({ nx := _, rt := Q : Ends }).nx _ (upd H d (.lst [.ref sc, .int (a + 1), .int b, .int c]))
    walk_at "q"
    refine s_if (et_test (ev_le (e1 rfl hd1) (ev_lenL (ev_ixL (ev_var rfl) ev_c (SqL.of hd1) (atI_nat (j := 0) rfl)) hS1))) (fun e => ?_) (fun e => ?_)
    · have e' := of_decide_eq_true e
      rw [List.length_map] at e'
      obtain ⟨n, hn⟩ : ∃ n, ns[a.toNat]? = some n := ⟨_, List.getElem?_eq_getElem (by omega)⟩
      have hat : atI (ns.map V.int) (a + 1 - 1) = some (.int n) := by
        rw [show a + 1 - 1 = ((a.toNat : Nat) : Int) by omega]
        exact atI_nat (by rw [List.getElem?_map, hn] <;> rfl)
      walk_at "q"
      refine s_asg (ev_ixL (ev_ixL (ev_var rfl) ev_c (SqL.of hd1) (atI_nat (j := 0) rfl)) (ev_sub (e1 rfl hd1) ev_c) hS1 hat) ?_
      walk_at "q"
      have hv : ∃ z : Int, Ev (tIf (tTest (tOp rGeI (tVar 3) (tOp rPowI (tC (.int 10)) (tC (.int 18))))) (tOp rFdivI (tVar 3) (tVar 1)) (tC (.int 0))) ((start ["_law_dice_here", "_law_many", "_law_found", "_law_cell_here"] [.ref d, .int m]).set 3 (some (.int n))) (upd H d (.lst [.ref sc, .int (a + 1), .int b, .int c])) (.int z) := by
        refine ⟨if (10 : Int) ^ (18 : Int).toNat ≤ n then n / (m : Int) else 0, ?_⟩
        refine ev_if (et_test (ev_ge (ev_var rfl) (ev_pow ev_c ev_c ⟨by decide, by decide, by decide⟩))) (fun e => ?_) (fun e => ?_)
        · rw [if_pos (of_decide_eq_true e)]
          exact ev_fdiv (ev_var rfl) (ev_var rfl) (cdiv hm hm2)
        · rw [if_neg (of_decide_eq_false e)]
          exact ev_c
      obtain ⟨z, hz⟩ := hv
      refine s_setL (i := 3) (j := 3) hz (ev_var rfl) ev_c hd1 rfl ?_
      obtain ⟨r, er, hr⟩ := modN (i := n) hm
      rw [upd_upd]
      dsimp only
      exact s_ret (ev_is (ev_mod (ev_var rfl) (ev_var rfl) (by omega)) (by rw [er])) (q r _ hr (chg_put hd) (.put hS hd (by omega)))
    · dsimp only [tNext]
      walk_at "q"
      refine s_setL (i := 2) (j := 2) (ev_mod (ev_mul (e2 rfl hd1) ev_c (.inr ⟨by decide, by decide⟩)) ev_c (by decide)) (ev_var rfl) ev_c hd1 rfl ?_
      rw [upd_upd]
      have hd2 : upd H d (.lst [.ref sc, .int (a + 1), .int (b * 48271 % 2147483647), .int c]) d = some (.lst [.ref sc, .int (a + 1), .int (b * 48271 % 2147483647), .int c]) := upd_same
      show ({ nx := _, rt := Q : Ends }).nx _ (upd H d (.lst [.ref sc, .int (a + 1), .int (b * 48271 % 2147483647), .int c]))
      obtain ⟨r, er, hr⟩ := modN (i := b * 48271 % 2147483647 / 7) hm
      dsimp only
      exact s_ret (ev_is (ev_mod (ev_fdiv (e2 rfl hd2) ev_c ⟨by decide, by decide⟩) (ev_var rfl) (by omega)) (by rw [er])) (q r _ hr (chg_put hd) (.put hS hd (by omega)))
end SS

set_option Elab.async false
set_option linter.all false
set_option maxRecDepth 100000
set_option maxHeartbeats 4000000
namespace SS
open PySem L2
local macro_rules | `(tactic| walk_at "q") => `(tactic| ((try dsimp only); refine s_seq ?_))

/-- a draw -/
theorem s_next {Z : Cs} {H : Hp} {s : L2.St} {n d : Nat} {m : Nat} {tm : TE} {Q : VK} (h : s[n]? = some (some (.ref d))) (x : DiceAt Z.K H d) (hm : Ev tm s H (.int m)) (m1 : 0 < m) (m2 : m < 1073741824)
    (k : ∀ (r : Nat) H', r < m → Chg (Dc d) H H' → DiceAt Z.K H' d → Q (.int r) H') : tCall (sp_L_next Z) [] E0 (tCons (tVar n) (tCons tm tNil)) s H Q :=
  s_call (ea_cons (ev_var h) (ea_cons hm ea_nil)) ⟨d, m, rfl, x, m1, m2, k⟩
theorem ev_N {H : Hp} {s : L2.St} (k : Nat) {i : Int} (e : i = (k : Int)) : Ev (tC (.int i)) s H (.int (k : Int)) := by rw [e]; exact ev_c
theorem chg_new {H H' : Hp} {F : Addr → Prop} {p : Addr} {o : HO} (c : Chg F H H') (hp : H' p = none) : Chg F H (upd H' p o) := c.trans (Chg.same (Same.new hp))
/-- a list that is filled meanwhile -/
theorem chg_fill {H H' : Hp} {F : Addr → Prop} {D : Addr} {o : HO} (c : Chg F H H') (h : H D = none) : Chg F H (upd H' D o) :=
  ⟨fun b u e n => by rw [upd_ne (ne_of_none e h)]; exact c.keep b u e n, fun b u e s => by rw [upd_ne (ne_of_none e h)]; exact c.fix_ b u e s⟩
theorem DiceAt.fill {K : PySem.W.Frag} {H' : Hp} {d D : Addr} {xs : List V} {o : HO} (x : DiceAt K H' d) (hD : H' D = some (.lst xs)) (n : D ≠ d) : DiceAt K (upd H' D o) d := x.chg (chg_put hD) fun z => n z.symm
theorem Chg.free' {F : Addr → Prop} {H H' : Hp} (c : Chg F H H') {b : Addr} (n : ¬ F b) (h : H' b = none) : H b = none := by
  cases z : H b with
  | none => rfl
  | some o =>
    have := c.keep b o z n
    rw [h] at this
    cases this
theorem pure_L_deed {Z : Cs} (vs : List V) (H : Hp) (Q : VK) (E : XK) (h : sp_L_deed Z vs H Q E) : t_L_deed Z { nx := fun _ H' => Q .non H', rt := Q } (start ["_law_d"] vs) H := by
  obtain ⟨d, rfl, x, q⟩ := h
  unfold t_L_deed
  walk_at "q"
  refine s_if_of (t_test_of (t_op_of (s_next rfl x (ev_N 3 rfl) (by decide) (by decide) fun r H1 hr c1 x1 => ?_)))
  refine ⟨rfl, _, rfl, ?_⟩
  cases e : decide (V.int (r : Int) = V.int 1) with
  | true =>
    refine iteT (s_ret_of (t_tup_of (t_cons_of (ev_c _ (t_cons_of (s_next rfl x1 (ev_N 100 rfl) (by decide) (by decide) fun z H2 hz c2 x2 => ?_))))))
    exact ⟨by show 2 ≤ sizeLine; decide, fun p hp => q _ (.push z) _ (chg_new (c1.trans c2) hp) (x2.same (Same.new hp)) ⟨p, rfl, upd_same⟩ ⟨by omega, by omega⟩⟩
  | false =>
    refine iteF ?_
    dsimp only [tNext]
    exact e_tup (ea_cons ev_c ea_nil) (by show 1 ≤ 1000; decide) fun p hp => q _ .pop _ (chg_new c1 hp) (x1.same (Same.new hp)) ⟨p, rfl, upd_same⟩ trivial
theorem pure_L_values {Z : Cs} (vs : List V) (H : Hp) (Q : VK) (E : XK) (h : sp_L_values Z vs H Q E) : t_L_values Z { nx := fun _ H' => Q .non H', rt := Q } (start ["_law_d", "_law_most", "_law_k"] vs) H := by
  obtain ⟨d, m, rfl, x, hm, q⟩ := h
  unfold t_L_values
  refine s_ret_of (e_lcRX (fun n H1 => n < m + 1 ∧ Chg (Dc d) H H1 ∧ DiceAt Z.K H1 d) (fun R hR => s_next (m := m + 1) rfl x (ev_is (ev_add (ev_var rfl) ev_c) rfl) (by omega) (by omega) fun r H1 hr c1 x1 => hR r H1 ⟨hr, c1, x1⟩) ?_)
  rintro n H1 ⟨hn, c1, x1⟩
  refine e_lcR ev_c (by omega) (fun D i H' => Chg (Dc d) H1 H' ∧ DiceAt Z.K H' d ∧ ∃ ns : List Int, ns.length = i ∧ (∀ v ∈ ns, okVal v) ∧ H' D = some (.lst (ns.map V.int)))
    (fun D hD => ⟨Chg.same (Same.new hD), x1.same (Same.new hD), [], rfl, (by simp), upd_same⟩) (fun D i H' hi hD p => ?_) (fun D H' hD p => ?_)
  · obtain ⟨c2, x2, ns, rfl, hv, hl⟩ := p
    have nD := x1.ne hD
    refine ⟨rfl, et_yes _ (iteT (s_next rfl x2 (ev_N 100 rfl) (by decide) (by decide) fun r H2 hr c3 x3 => ?_))⟩
    have hl3 := c3.ne hl nD
    refine ⟨_, hl3, by rw [List.length_map]; exact Nat.lt_of_lt_of_le hi (Nat.le_trans (by omega : n ≤ 1001) (by decide)), chg_fill (c2.trans c3) hD, x3.fill hl3 nD, ns ++ [(r : Int)], by simp, ?_, ?_⟩
    · intro v hv'
      rcases List.mem_append.mp hv' with z | z
      · exact hv v z
      · have e : v = (r : Int) := by simpa using z
        rw [e]
        exact ⟨by omega, by omega⟩
    · rw [upd_same, List.map_append]
      rfl
  · obtain ⟨c2, x2, ns, hn2, hv, hl⟩ := p
    exact q D ns H' (c1.free' (x1.ne hD) hD) (c1.trans c2) x2 hl (by omega) hv
theorem rising_snoc : ∀ {l : List Nat} {i : Nat}, rising l → (∀ h ∈ l, h < i) → rising (l ++ [i])
  | [], i, _, _ => trivial
  | [a], i, _, h => ⟨h a (by simp), trivial⟩
  | a :: b :: l, i, hr, h => ⟨hr.1, rising_snoc (l := b :: l) hr.2 fun x hx => h x (List.mem_cons_of_mem _ hx)⟩
theorem pure_L_rule {Z : Cs} (vs : List V) (H : Hp) (Q : VK) (E : XK) (h : sp_L_rule Z vs H Q E) : t_L_rule Z { nx := fun _ H' => Q .non H', rt := Q } (start ["_law_d", "_law_many", "_law_kind", "_law_hand"] vs) H := by
  obtain ⟨d, many, rfl, x, hm, q⟩ := h
  unfold t_L_rule
  walk_at "q"
  refine s_next rfl x (ev_N 4 rfl) (by decide) (by decide) fun kind H1 hk c1 x1 => ?_
  show ({ nx := _, rt := Q : Ends }).nx _ _
  walk_at "q"
  refine s_if (et_test (ev_lt (ev_var rfl) ev_c)) (fun e => ?_) (fun e => ?_)
  · refine s_ret_of (t_tup_of (t_cons_of (ev_c _ (t_cons_of (t_op_of (ev_c _ (t_call_of (t_cons_of (ev_var rfl _ (t_cons_of (t_op_of (e_lst (ea_cons ev_c (ea_cons ev_c ea_nil)) (by show 2 ≤ 1000; decide) fun l hl => ?_))))))))))))
    have x2 := x1.same (Same.new (o := .lst [.int 3, .int 15]) hl)
    refine s_next rfl x2 (ev_N 2 rfl) (by decide) (by decide) fun r H2 hr c2 x3 => ?_
    have hl2 := c2.ne (upd_same (H := H1) (a := l) (o := .lst [.int 3, .int 15])) (x1.ne hl)
    obtain ⟨b, hb, hat⟩ : ∃ b : Nat, (1 ≤ b ∧ b ≤ 15) ∧ atI [V.int 3, V.int 15] (r : Int) = some (.int b) := by
      have : r = 0 ∨ r = 1 := by omega
      rcases this with rfl | rfl
      · exact ⟨3, by decide, rfl⟩
      · exact ⟨15, by decide, rfl⟩
    refine ⟨l, _, _, _, rfl, rfl, SqL.of hl2, hat, ?_⟩
    refine ⟨d, b, rfl, x3, by omega, by omega, fun z H3 hz c3 x4 => ?_⟩
    refine ⟨1, z, rfl, rfl, by show 2 ≤ sizeLine; decide, fun p hp => ?_⟩
    refine q p (.counts (1 + z)) _ (chg_new (((c1.trans (Chg.same (Same.new hl))).trans c2).trans c3) hp) (x4.same (Same.new hp)) ?_ ⟨by omega, by omega⟩
    show upd _ _ _ _ = _
    rw [upd_same]
    rfl
  · dsimp only [tNext]
    walk_at "q"
    refine s_if (et_test (ev_eq (ev_var rfl) ev_c rfl)) (fun e => ?_) (fun e => ?_)
    · refine s_ret_of (t_tup_of (t_cons_of (ev_c _ (t_cons_of (t_cb_of (t_cons_of ?_))))))
      refine e_lcR (ev_var rfl) (by omega) (fun D i H' => Chg (Dc d) H1 H' ∧ DiceAt Z.K H' d ∧ ∃ hs : List Nat, (∀ h ∈ hs, h < i) ∧ rising hs ∧ hs.length ≤ i ∧ H' D = some (.lst (hs.map natV)))
        (fun D hD => ⟨Chg.same (Same.new hD), x1.same (Same.new hD), [], (by simp), trivial, Nat.le_refl _, upd_same⟩) (fun D i H' hi hD p => ?_) (fun D H' hD p => ?_)
      · obtain ⟨c2, x2, hs, h1, h2, h3, hl⟩ := p
        have nD := x1.ne hD
        refine ⟨rfl, t_test_of (t_op_of (s_next rfl x2 (ev_N 2 rfl) (by decide) (by decide) fun r H2 hr c3 x3 => ?_))⟩
        have hl3 := c3.ne hl nD
        refine ⟨rfl, _, rfl, ?_⟩
        cases e : decide (V.int (r : Int) = V.int 1) with
        | true =>
          refine iteT (ev_var rfl _ ⟨_, hl3, by rw [List.length_map]; exact Nat.lt_of_le_of_lt h3 (Nat.lt_of_lt_of_le hi (Nat.le_trans hm (by decide))), chg_fill (c2.trans c3) hD, x3.fill hl3 nD, hs ++ [i], ?_, ?_, by simp; omega, ?_⟩)
          · intro h hh
            rcases List.mem_append.mp hh with z | z
            · have := h1 h z; omega
            · have e : h = i := by simpa using z
              omega
          · exact rising_snoc h2 h1
          · rw [upd_same, List.map_append]
            rfl
        | false => exact iteF ⟨c2.trans c3, x3, hs, fun h hh => by have := h1 h hh; omega, h2, by omega, hl3⟩
      · obtain ⟨c2, x2, hs, h1, h2, h3, hl⟩ := p
        refine ⟨D, _, rfl, .inl ⟨SqL.of hl, fun t ht => ?_⟩⟩
        refine ⟨by show 2 ≤ sizeLine; decide, fun p hp => ?_⟩
        refine q p (.marks hs) _ (chg_new (chg_new (c1.trans c2) ht) hp) ((x2.same (Same.new ht)).same (Same.new hp)) ⟨t, upd_same, ?_⟩ ⟨h1, h2, by omega⟩
        exact Same.new hp _ _ upd_same
    · dsimp only [tNext]
      exact e_tup (ea_cons ev_c ea_nil) (by show 1 ≤ 1000; decide) fun p hp => q p .keeps _ (chg_new c1 hp) (x1.same (Same.new hp)) upd_same trivial
end SS

set_option Elab.async false
set_option linter.all false
set_option maxRecDepth 100000
set_option maxHeartbeats 4000000
namespace SS
open PySem L2
local macro_rules | `(tactic| walk_at "q") => `(tactic| ((try dsimp only); refine s_seq ?_))

theorem s_deed {Z : Cs} {H : Hp} {s : L2.St} {n d : Nat} {Q : VK} (h : s[n]? = some (some (.ref d))) (x : DiceAt Z.K H d) (k : ∀ v (e : Deed) H', Chg (Dc d) H H' → DiceAt Z.K H' d → DeedAt H' v e → okDeed e → Q v H') :
    tCall (sp_L_deed Z) [] E0 (tCons (tVar n) tNil) s H Q := s_call (ea_cons (ev_var h) ea_nil) ⟨d, rfl, x, k⟩
/-- programs that stand: lists of deeds, none of them is the dice -/
theorem ProgAt.ne {K : PySem.W.Frag} {H : Hp} {d : Addr} {q : Addr} {us : List V} {ds : List Deed} (x : DiceAt K H d) (h : H q = some (.lst us)) (hd : All2 (DeedAt H) us ds) : q ≠ d := by
  obtain ⟨sc, ns, a, b, c, h1, _⟩ := x
  intro e
  rw [e, h1] at h
  cases h
  cases hd with
  | cons r t => cases t with
    | cons r2 t2 =>
      obtain ⟨q2, e2, _⟩ := r2
      cases e2
theorem ProgAt.dice {K : PySem.W.Frag} {H H' : Hp} {d : Addr} {v : V} {ds : List Deed} (c : Chg (Dc d) H H') (x : DiceAt K H d) (h : ProgAt H v ds) : ProgAt H' v ds := by
  obtain ⟨q, us, rfl, h1, h2⟩ := h
  exact ⟨q, us, rfl, c.ne h1 (ProgAt.ne x h1 h2), h2.mono fun _ _ => DeedAt.mono c.tup⟩
theorem PgAt.ne {K : PySem.W.Frag} {H : Hp} {d l : Addr} {us : List V} {ps : List (List Deed)} (x : DiceAt K H d) (h : H l = some (.lst us)) (hd : All2 (ProgAt H) us ps) : l ≠ d := by
  obtain ⟨sc, ns, a, b, c, h1, _⟩ := x
  intro e
  rw [e, h1] at h
  cases h
  cases hd with
  | cons r t => cases t with
    | cons r2 t2 =>
      obtain ⟨q2, us, e2, _⟩ := r2
      cases e2
theorem PgAt.dice {K : PySem.W.Frag} {H H' : Hp} {d l : Addr} {ps : List (List Deed)} (c : Chg (Dc d) H H') (x : DiceAt K H d) (h : PgAt H l ps) : PgAt H' l ps := by
  obtain ⟨us, h1, h2⟩ := h
  exact ⟨us, c.ne h1 (PgAt.ne x h1 h2), h2.mono fun _ _ => ProgAt.dice c x⟩
theorem ProgAt.same {H H' : Hp} {v : V} {ds : List Deed} (c : Same H H') (h : ProgAt H v ds) : ProgAt H' v ds := by
  obtain ⟨q, us, rfl, h1, h2⟩ := h
  exact ⟨q, us, rfl, c _ _ h1, h2.mono fun _ _ => DeedAt.mono fun b xs e => c _ _ e⟩
theorem PgAt.same {H H' : Hp} {l : Addr} {ps : List (List Deed)} (c : Same H H') (h : PgAt H l ps) : PgAt H' l ps := by
  obtain ⟨us, h1, h2⟩ := h
  exact ⟨us, c _ _ h1, h2.mono fun _ _ => ProgAt.same c⟩
theorem All2.reverse {α β : Type} {R : α → β → Prop} : ∀ {l m}, All2 R l m → All2 R l.reverse m.reverse
  | _, _, .nil => .nil
  | _, _, .cons r t => by
    rw [List.reverse_cons, List.reverse_cons]
    exact All2.snoc r (All2.reverse t)
theorem pure_L_weaving {Z : Cs} (vs : List V) (H : Hp) (Q : VK) (E : XK) (h : sp_L_weaving Z vs H Q E) : t_L_weaving Z { nx := fun _ H' => Q .non H', rt := Q } (start ["_law_d", "_law_many", "_law_most", "_law_weaving_here", "_law_k"] vs) H := by
  obtain ⟨d, many, most, rfl, x, h1, h2, h3, h4, q⟩ := h
  unfold t_L_weaving
  walk_at "q"
  refine s_asg_of (e_lst ea_nil (by show 0 ≤ 1000; decide) fun l hl => ?_)
  have x1 := x.same (Same.new (o := .lst []) hl)
  show ({ nx := _, rt := Q : Ends }).nx _ _
  walk_at "q"
  refine s_forRX (fun n H1 => n < most ∧ Chg (Dc d) (upd H l (.lst [])) H1 ∧ DiceAt Z.K H1 d) (fun R hR => s_next rfl x1 (ev_var rfl) (by omega) (by omega) fun r H1 hr c1 x1 => hR r H1 ⟨hr, c1, x1⟩) ?_
  rintro n H1 ⟨hn, c1, x2⟩
  have hl1 := c1.ne (upd_same (H := H) (a := l) (o := .lst [])) (x.ne hl)
  refine s_forR ev_c (by omega) (fun i s' H' => ∃ (lw : Addr) (w : List Nat) (k : Option V), s' = [some (.ref d), some (.int many), some (.int most), some (.ref lw), k] ∧ H lw = none ∧ Chg (Dc d) H H' ∧ DiceAt Z.K H' d ∧ H' lw = some (.lst (w.map natV)) ∧ (∀ h ∈ w, h < many) ∧ w.length ≤ 5 * i)
    ⟨l, [], none, rfl, hl, (Chg.same (Same.new hl)).trans c1, x2, hl1, by simp, by simp⟩ ?_ ?_
  · rintro i s' H' hi ⟨lw, w, k, rfl, hlw, c2, x3, hw, hh, hlen⟩
    refine s_asg_of (t_op_of (ev_var rfl _ (t_op_of (t_lst_of (t_cons_of (s_next rfl x3 (ev_var rfl) h1 (by omega) fun r H2 hr c3 x4 => ?_))))))
    refine ⟨by show 1 ≤ sizeLine; decide, fun l2 hl2 => ?_⟩
    have x5 := x4.same (Same.new (o := .lst [.int r]) hl2)
    refine t_op_of (ev_c _ (s_next rfl x5 (ev_N 5 rfl) (by decide) (by decide) fun z H3 hz c4 x6 => ?_))
    have e1 := c4.ne (upd_same (H := H2) (a := l2) (o := .lst [.int r])) (x4.ne hl2)
    refine ⟨1, z, rfl, rfl, ?_⟩
    refine ⟨l2, 1 + z, _, rfl, rfl, e1, by omega, by omega, ?_, fun l3 hl3 => ?_⟩
    · show 1 * (1 + (z : Int)).toNat ≤ sizeLine
      exact Nat.le_trans (by omega : 1 * (1 + (z : Int)).toNat ≤ 1000) (by decide)
    have nlw : lw ≠ d := x.ne hlw
    have w1 := c3.ne hw nlw
    have w2 := Same.new (o := .lst [.int r]) hl2 _ _ w1
    have w3 := c4.ne w2 nlw
    have w4 := Same.new (o := .lst (List.replicate (1 + (z : Int)).toNat [V.int r]).flatten) hl3 _ _ w3
    have erep : (List.replicate (1 + (z : Int)).toNat [V.int (r : Int)]).flatten = (List.replicate (1 + z) r).map natV := by
      rw [show (1 + (z : Int)).toNat = 1 + z by omega]
      induction (1 + z) with
      | zero => rfl
      | succ n ih => rw [List.replicate_succ, List.flatten_cons, ih, List.replicate_succ]; rfl
    refine ⟨lw, l3, _, _, rfl, rfl, w4, upd_same, ?_, fun l4 hl4 => ?_⟩
    · rw [erep, List.length_map, List.length_map, List.length_replicate]
      exact Nat.le_trans (by omega : w.length + (1 + z) ≤ 10000) (by decide)
    have cc : Chg (Dc d) H (upd H3 l3 (.lst (List.replicate (1 + (z : Int)).toNat [V.int r]).flatten)) := chg_new (((c2.trans c3).trans (Chg.same (Same.new hl2))).trans c4) hl3
    have x7 := x6.same (Same.new (o := .lst (List.replicate (1 + (z : Int)).toNat [V.int r]).flatten) hl3)
    refine ⟨l4, w ++ List.replicate (1 + z) r, _, rfl, cc.free' (x7.ne hl4) hl4, chg_new cc hl4, x7.same (Same.new hl4), ?_, ?_, ?_⟩
    · rw [upd_same, erep, List.map_append]
    · intro y hy
      rcases List.mem_append.mp hy with z | z
      · exact hh y z
      · have e := List.eq_of_mem_replicate z
        omega
    · rw [List.length_append, List.length_replicate]
      omega
  · rintro s' H' ⟨lw, w, k, rfl, hlw, c2, x3, hw, hh, hlen⟩
    exact s_ret (ev_var rfl) (q lw w H' hlw c2 x3 hw hh (by omega))
theorem natN (n : Nat) : V.int (n : Int) = natV n := rfl
theorem All2.mem {α β : Type} {R : α → β → Prop} {a : α} : ∀ {l m}, All2 R l m → a ∈ l → ∃ b, R a b
  | _, _, .nil, h => by cases h
  | _, _, .cons r t, h => by
    rcases List.mem_cons.mp h with z | z
    · exact ⟨_, by rw [z]; exact r⟩
    · exact All2.mem t z
/-- a list of deeds is put anew -/
theorem ProgAt.put {H : Hp} {l q : Addr} {us vs : List V} {ds : List Deed} (hl : H l = some (.lst vs)) (h : H q = some (.lst us)) (hd : All2 (DeedAt H) us ds) (n : q ≠ l) {ws : List V} : ProgAt (upd H l (.lst ws)) (.ref q) ds :=
  ⟨q, us, rfl, by rw [upd_ne n]; exact h, hd.mono fun _ _ => DeedAt.mono fun b xs e => by rw [upd_ne (fun z => by rw [z, hl] at e; cases e)]; exact e⟩
theorem pure_L_programs {Z : Cs} (vs : List V) (H : Hp) (Q : VK) (E : XK) (h : sp_L_programs Z vs H Q E) : t_L_programs Z { nx := fun _ H' => Q .non H', rt := Q } (start ["_law_d", "_law_hands", "_law_deeds", "_law_rows", "_law_k", "_law_hand"] vs) H := by
  obtain ⟨d, hn, dn, rfl, x, h1, h2, h3, q⟩ := h
  unfold t_L_programs
  -- the second way: programs drawn row by row
  have rows : ∀ (D0 : Ends) H1, Chg (Dc d) H H1 → DiceAt Z.K H1 d → D0.rt = Q →
      tRet (tLc (iRng1 (tCons (tOp rAddI (tC (.int 1)) (tCall (sp_L_next Z) [] E0 (tCons (tVar 0) (tCons (tVar 1) tNil)))) tNil)) (gName 5) tYes (tLc (iRng1 (tCons (tCall (sp_L_next Z) [] E0 (tCons (tVar 0) (tCons (tOp rAddI (tVar 2) (tC (.int 1))) tNil))) tNil)) (gName 4) tYes (tCall (sp_L_deed Z) [] E0 (tCons (tVar 0) tNil)) [4]) [5])
        D0 (start ["_law_d", "_law_hands", "_law_deeds", "_law_rows", "_law_k", "_law_hand"] [.ref d, .int hn, .int dn]) H1 := by
    intro D0 H1 c1 x1 eD
    refine s_ret_of ?_
    rw [eD]
    refine e_lcRX (fun n H2 => (1 ≤ n ∧ n ≤ hn) ∧ Chg (Dc d) H1 H2 ∧ DiceAt Z.K H2 d) (fun R hR => t_op_of (ev_c _ (s_next rfl x1 (ev_var rfl) (by omega) (by omega) fun r H2 hr c2 x2 => ⟨1, r, rfl, rfl, ?_⟩))) ?_
    · show R (.int ((1 : Int) + (r : Int))) H2
      rw [show (1 : Int) + (r : Int) = ((1 + r : Nat) : Int) by omega]
      exact hR (1 + r) H2 ⟨by omega, c2, x2⟩
    rintro n H2 ⟨hnn, c2, x2⟩
    refine e_lcR ev_c (by omega) (fun D i H' => Chg (Dc d) H2 H' ∧ DiceAt Z.K H' d ∧ ∃ (us : List V) (ps : List (List Deed)), ps.length = i ∧ H' D = some (.lst us) ∧ All2 (ProgAt H') us ps ∧ (∀ p ∈ ps, p.length ≤ 4) ∧ (∀ p ∈ ps, ∀ e ∈ p, okDeed e))
      (fun D hD => ⟨Chg.same (Same.new hD), x2.same (Same.new hD), [], [], rfl, upd_same, .nil, by simp, by simp⟩) (fun D i H' hi hD p => ?_) (fun D H' hD p => ?_)
    · obtain ⟨c3, x3, us, ps, rfl, hl, hu, hp4, hpd⟩ := p
      have nD := x2.ne hD
      refine ⟨rfl, et_yes _ (iteT ?_)⟩
      refine e_lcRX (fun m H3 => m < dn + 1 ∧ Chg (Dc d) H' H3 ∧ DiceAt Z.K H3 d) (fun R hR => s_next (m := dn + 1) rfl x3 (ev_is (ev_add (ev_var rfl) ev_c) rfl) (by omega) (by omega) fun r H3 hr c4 x4 => hR r H3 ⟨hr, c4, x4⟩) ?_
      rintro m H3 ⟨hm, c4, x4⟩
      refine e_lcR ev_c (by omega) (fun D2 j H4 => Chg (Dc d) H3 H4 ∧ DiceAt Z.K H4 d ∧ ∃ (vs : List V) (ds : List Deed), ds.length = j ∧ H4 D2 = some (.lst vs) ∧ All2 (DeedAt H4) vs ds ∧ (∀ e ∈ ds, okDeed e))
        (fun D2 hD2 => ⟨Chg.same (Same.new hD2), x4.same (Same.new hD2), [], [], rfl, upd_same, .nil, by simp⟩) (fun D2 j H4 hj hD2 p => ?_) (fun D2 H4 hD2 p => ?_)
      · obtain ⟨c5, x5, vs, ds, rfl, hl2, hv, hd⟩ := p
        have nD2 := x4.ne hD2
        refine ⟨rfl, et_yes _ (iteT (s_deed rfl x5 fun v e H5 c6 x6 hve he => ?_))⟩
        have hl3 := c6.ne hl2 nD2
        have hlen := hv.length
        refine ⟨vs, hl3, by rw [hlen]; exact Nat.lt_of_lt_of_le (by omega : ds.length < 1000) (by decide), chg_fill (c5.trans c6) hD2, x6.fill hl3 nD2, vs ++ [v], ds ++ [e], by simp, upd_same, ?_, ?_⟩
        · have tup : Tups H5 (upd H5 D2 (.lst (vs ++ [v]))) := fun b xs e => by
            rw [upd_ne (fun z => by rw [z, hl3] at e; cases e)]
            exact e
          exact (hv.mono fun _ _ => DeedAt.mono fun b xs e => tup _ _ (c6.tup _ _ e)).snoc (hve.mono tup)
        · intro y hy
          rcases List.mem_append.mp hy with z | z
          · exact hd y z
          · have e' : y = e := by simpa using z
            rw [e']
            exact he
      · obtain ⟨c5, x5, vs, ds, hds, hl2, hv, hd⟩ := p
        have hlD := (c4.trans c5).ne hl nD
        have pr : ProgAt H4 (.ref D2) ds := ⟨D2, vs, rfl, hl2, hv⟩
        have nDD2 : D2 ≠ D := by
          have := c4.ne hl nD
          exact fun e => by rw [e, this] at hD2; cases hD2
        have hul := hu.length
        refine ⟨us, hlD, by rw [hul]; exact Nat.lt_of_lt_of_le (by omega : ps.length < 1000) (by decide), chg_fill ((c3.trans c4).trans c5) hD, x5.fill hlD nD, us ++ [.ref D2], ps ++ [ds], by simp, upd_same, ?_, ?_, ?_⟩
        · have hu4 : All2 (ProgAt H4) us ps := hu.mono fun _ _ => ProgAt.dice (c4.trans c5) x3
          have stepD : ∀ v ds, ProgAt H4 v ds → v ≠ .ref D → ProgAt (upd H4 D (.lst (us ++ [.ref D2]))) v ds := by
            rintro v ds ⟨q, vs, rfl, a1, a2⟩ nv
            have nq : q ≠ D := fun z => nv (by rw [z])
            exact ⟨q, vs, rfl, by rw [upd_ne nq]; exact a1, a2.mono fun _ _ => DeedAt.mono fun b xs e => by rw [upd_ne (fun z => by rw [z, hlD] at e; cases e)]; exact e⟩
          have main : ∀ {us' : List V} {ps' : List (List Deed)}, All2 (ProgAt H4) us' ps' → All2 (ProgAt H') us' ps' → (∀ u ∈ us', u ≠ .ref D) → All2 (ProgAt (upd H4 D (.lst (us ++ [.ref D2])))) us' ps' := by
            intro us' ps' a1
            induction a1 with
            | nil => intro _ _; exact .nil
            | cons r t ih =>
              intro a2 hn
              cases a2 with
              | cons r2 t2 => exact .cons (stepD _ _ r (hn _ List.mem_cons_self)) (ih t2 fun u hu => hn u (List.mem_cons_of_mem _ hu))
          have noD : ∀ u ∈ us, u ≠ .ref D := by
            intro u hu' e
            rw [e] at hu'
            obtain ⟨dsD, q2, vs2, e2, a1, a2⟩ := hu.mem hu'
            cases e2
            rw [hl] at a1
            cases a1
            obtain ⟨eD, q3, e3, a3⟩ := a2.mem hu'
            cases e3
            rw [hl] at a3
            cases a3
          exact (main hu4 hu noD).snoc (stepD _ _ pr fun z => nDD2 (V.ref.inj z))
        · intro y hy
          rcases List.mem_append.mp hy with z | z
          · exact hp4 y z
          · have e' : y = ds := by simpa using z
            rw [e']
            omega
        · intro y hy
          rcases List.mem_append.mp hy with z | z
          · exact hpd y z
          · have e' : y = ds := by simpa using z
            rw [e']
            exact hd
    · obtain ⟨c3, x3, us, ps, hps, hl, hu, hp4, hpd⟩ := p
      exact q D ps H' ((c1.trans c2).free' (x2.ne hD) hD) ((c1.trans c2).trans c3) x3 ⟨us, hl, hu⟩ (by omega) (by omega) hp4 hpd
  walk_at "q"
  by_cases e1 : hn = 1
  · refine s_ifF (et_is (et_and (b := true) (et_test (ev_gt (ev_var rfl) ev_c)) fun e => ?_) ?_) (rows _ H (Chg.refl _ _) x rfl)
    · exact absurd (of_decide_eq_true e) (by omega)
    · rw [decide_eq_false (by omega)]
      rfl
  refine s_if_of ?_
  refine (et_test (ev_is (ev_gt (ev_var rfl) ev_c) (by rw [decide_eq_true (by omega)]))) _ (iteT ?_)
  refine t_test_of (t_op_of (s_next rfl x (ev_N 3 rfl) (by decide) (by decide) fun r H1 hr c1 x1 => ?_))
  refine ⟨rfl, _, rfl, ?_⟩
  cases e : decide (V.int (r : Int) = V.int 2) with
  | false => exact iteF (rows _ H1 c1 x1 rfl)
  | true =>
    refine iteT ?_
    walk_at "q"
    -- the two rows
    refine s_asg_of (t_lst_of (t_cons_of (t_lst_of (t_cons_of (e_tup (ea_cons ev_c ea_nil) (by show 1 ≤ 1000; decide) fun t1 ht1 => ?_)))))
    refine ⟨by show 1 ≤ sizeLine; decide, fun l1 hl1 => ?_⟩
    have f1 : H l1 = none := (chg_new (o := .tup [.str "pop"]) c1 ht1).free' ((x1.same (Same.new (o := .tup [.str "pop"]) ht1)).ne hl1) hl1
    have d1 : DeedAt (upd H1 t1 (.tup [.str "pop"])) (.ref t1) .pop := ⟨t1, rfl, upd_same⟩
    have c2 := chg_new (o := .lst [.ref t1]) (chg_new (o := .tup [.str "pop"]) c1 ht1) hl1
    have x2 := (x1.same (Same.new (o := .tup [.str "pop"]) ht1)).same (Same.new (o := .lst [.ref t1]) hl1)
    have p1 : ProgAt (upd (upd H1 t1 (.tup [.str "pop"])) l1 (.lst [.ref t1])) (.ref l1) [.pop] := ⟨l1, _, rfl, upd_same, .cons (d1.mono fun b xs e => Same.new hl1 _ _ e) .nil⟩
    generalize hG2 : upd (upd H1 t1 (.tup [.str "pop"])) l1 (.lst [.ref t1]) = G2 at c2 x2 p1
    refine t_cons_of (t_lst_of (t_cons_of (e_tup (ea_cons ev_c ea_nil) (by show 1 ≤ 1000; decide) fun t2 ht2 => ?_)))
    refine t_cons_of (e_tup (ea_cons ev_c ea_nil) (by show 1 ≤ 1000; decide) fun t3 ht3 => ?_)
    have d2 : DeedAt (upd (upd G2 t2 (.tup [.str "pop"])) t3 (.tup [.str "pop"])) (.ref t2) .pop := ⟨t2, rfl, Same.new ht3 _ _ upd_same⟩
    have d3 : DeedAt (upd (upd G2 t2 (.tup [.str "pop"])) t3 (.tup [.str "pop"])) (.ref t3) .pop := ⟨t3, rfl, upd_same⟩
    have c3 := chg_new (o := .tup [.str "pop"]) (chg_new (o := .tup [.str "pop"]) c2 ht2) ht3
    have x3 := (x2.same (Same.new (o := .tup [.str "pop"]) ht2)).same (Same.new (o := .tup [.str "pop"]) ht3)
    have p2 := ProgAt.same (Same.new (o := .tup [.str "pop"]) ht3) (ProgAt.same (Same.new (o := .tup [.str "pop"]) ht2) p1)
    generalize hG3 : upd (upd G2 t2 (.tup [.str "pop"])) t3 (.tup [.str "pop"]) = G3 at d2 d3 c3 x3 p2
    refine t_cons_of (t_tup_of (t_cons_of (ev_c _ (t_cons_of (s_next rfl x3 (ev_N 100 rfl) (by decide) (by decide) fun z H4 hz c4 x4 => ?_)))))
    have d2 := d2.mono c4.tup
    have d3 := d3.mono c4.tup
    have p3 := ProgAt.dice c4 x3 p2
    refine ⟨by show 2 ≤ sizeLine; decide, fun t4 ht4 => ?_⟩
    refine ⟨by show 3 ≤ sizeLine; decide, fun l2 hl2 => ?_⟩
    have f2 : H l2 = none := (chg_new (o := .tup [.str "push", .int z]) (c3.trans c4) ht4).free' ((x4.same (Same.new (o := .tup [.str "push", .int z]) ht4)).ne hl2) hl2
    have sm : Same H4 (upd (upd H4 t4 (.tup [.str "push", .int z])) l2 (.lst [.ref t2, .ref t3, .ref t4])) := fun b o e => Same.new hl2 _ _ (Same.new ht4 _ _ e)
    have q2 : ProgAt (upd (upd H4 t4 (.tup [.str "push", .int z])) l2 (.lst [.ref t2, .ref t3, .ref t4])) (.ref l2) [.pop, .pop, .push z] :=
      ⟨l2, _, rfl, upd_same, .cons (d2.mono fun b xs e => sm _ _ e) (.cons (d3.mono fun b xs e => sm _ _ e) (.cons ⟨t4, rfl, Same.new hl2 _ _ upd_same⟩ .nil))⟩
    have c5 := (c3.trans c4).trans (Chg.same (F := Dc d) sm)
    have x5 := x4.same sm
    have p4 := ProgAt.same sm p3
    have n12 : l1 ≠ l2 := by
      obtain ⟨q, us, e, h, _⟩ := p3
      cases e
      exact ne_of_none (Same.new ht4 _ _ h) hl2
    generalize hG5 : upd (upd H4 t4 (.tup [.str "push", .int z])) l2 (.lst [.ref t2, .ref t3, .ref t4]) = G5 at q2 c5 x5 p4
    refine ⟨by show 2 ≤ sizeLine; decide, fun l3 hl3 => ?_⟩
    have c6 := chg_new (o := .lst [.ref l1, .ref l2]) c5 hl3
    have x6 := x5.same (Same.new (o := .lst [.ref l1, .ref l2]) hl3)
    have p5 := ProgAt.same (Same.new (o := .lst [.ref l1, .ref l2]) hl3) p4
    have q3 := ProgAt.same (Same.new (o := .lst [.ref l1, .ref l2]) hl3) q2
    have r3 : upd G5 l3 (.lst [.ref l1, .ref l2]) l3 = some (.lst [.ref l1, .ref l2]) := upd_same
    have n3d : l3 ≠ d := x5.ne hl3
    have n13 : l1 ≠ l3 := by
      obtain ⟨q, us, e, h, _⟩ := p4
      cases e
      exact ne_of_none h hl3
    have n23 : l2 ≠ l3 := by
      obtain ⟨q, us, e, h, _⟩ := q2
      cases e
      exact ne_of_none h hl3
    generalize hG6 : upd G5 l3 (.lst [.ref l1, .ref l2]) = G6 at c6 x6 p5 q3 r3
    show ({ nx := _, rt := Q : Ends }).nx _ G6
    walk_at "q"
    -- one of them gets a deed more
    refine s_drop' (t_bm_of (t_op_of (ev_var rfl _ (s_next rfl x6 (ev_N 2 rfl) (by decide) (by decide) fun w H7 hw c7 x7 => ?_))))
    have p6 := ProgAt.dice c7 x6 p5
    have q4 := ProgAt.dice c7 x6 q3
    have r4 := c7.ne r3 n3d
    have hat : atI [V.ref l1, V.ref l2] (w : Int) = some (.ref (if w = 0 then l1 else l2)) := by
      have : w = 0 ∨ w = 1 := by omega
      rcases this with rfl | rfl <;> rfl
    refine ⟨l3, _, w, _, rfl, rfl, SqL.of r4, hat, ?_⟩
    have ty : ∃ us, H7 (if w = 0 then l1 else l2) = some (.lst us) := by
      obtain ⟨q, us, e, h, _⟩ := p6
      cases e
      obtain ⟨q', us', e', h', _⟩ := q4
      cases e'
      split
      · exact ⟨_, h⟩
      · exact ⟨_, h'⟩
    obtain ⟨us7, hus7⟩ := ty
    refine ⟨.inl ⟨rfl, _, SqL.of hus7⟩, t_cons_of (ev_c _ (t_cons_of (s_deed rfl x7 fun v ed H8 c8 x8 hv8 hed => ?_)))⟩
    have p7 := ProgAt.dice c8 x7 p6
    have q5 := ProgAt.dice c8 x7 q4
    have r5 := c8.ne r4 n3d
    have cc := (c6.trans c7).trans c8
    obtain ⟨a1, us1, ea, hp1, hd1⟩ := p7
    cases ea
    obtain ⟨a2, us2, ea, hp2, hd2⟩ := q5
    cases ea
    -- the list that is changed, and the programs behind it
    have fin : ∀ H9, Chg (Dc d) H H9 → DiceAt Z.K H9 d → H9 l3 = some (.lst [.ref l1, .ref l2]) → (∃ dsA dsB, ProgAt H9 (.ref l1) dsA ∧ ProgAt H9 (.ref l2) dsB ∧ (dsA.length ≤ 4 ∧ dsB.length ≤ 4) ∧ (∀ e ∈ dsA, okDeed e) ∧ ∀ e ∈ dsB, okDeed e) →
        tRet (tStepL Z.K (tVar 3) (tOp (rIxL Z.K) (tLst (tCons (tC (.int 1)) (tCons (tUn rNegI (tC (.int 1))) tNil))) (tCall (sp_L_next Z) [] E0 (tCons (tVar 0) (tCons (tC (.int 2)) tNil))))) { nx := fun _ H' => Q .non H', rt := Q } ((start ["_law_d", "_law_hands", "_law_deeds", "_law_rows", "_law_k", "_law_hand"] [.ref d, .int hn, .int dn]).set 3 (some (.ref l3))) H9 := by
      rintro H9 c9 x9 r9 ⟨dsA, dsB, pA, pB, ⟨lA, lB⟩, okA, okB⟩
      refine s_ret_of (ev_var rfl _ (t_op_of (e_lst (ea_cons ev_c (ea_cons (ev_neg ev_c) ea_nil)) (by show 2 ≤ 1000; decide) fun lk hlk => ?_)))
      have x10 := x9.same (Same.new (o := .lst [.int 1, .int (-1)]) hlk)
      refine s_next rfl x10 (ev_N 2 rfl) (by decide) (by decide) fun y H11 hy c11 x11 => ?_
      have hlk2 := c11.ne (upd_same (H := H9) (a := lk) (o := .lst [.int 1, .int (-1)])) (x9.ne hlk)
      have ck := (chg_new (o := .lst [.int 1, .int (-1)]) c9 hlk).trans c11
      have r11 := c11.ne (Same.new (o := .lst [.int 1, .int (-1)]) hlk _ _ r9) n3d
      have pA' := ProgAt.dice c11 x10 (ProgAt.same (Same.new hlk) pA)
      have pB' := ProgAt.dice c11 x10 (ProgAt.same (Same.new hlk) pB)
      have hk : ∃ k : Int, atI [V.int 1, V.int (-1)] (y : Int) = some (.int k) ∧ (k = 1 ∨ k = -1) := by
        have : y = 0 ∨ y = 1 := by omega
        rcases this with rfl | rfl
        · exact ⟨1, rfl, .inl rfl⟩
        · exact ⟨-1, rfl, .inr rfl⟩
      obtain ⟨k, hat, hk⟩ := hk
      refine ⟨lk, _, _, _, rfl, rfl, SqL.of hlk2, hat, k, rfl, l3, _, k, rfl, rfl, SqL.of r11, hk, fun l hl => ?_⟩
      rcases hk with rfl | rfl
      · rw [if_pos rfl]
        refine q l [dsA, dsB] _ (ck.free' (x11.ne hl) hl) (chg_new ck hl) (x11.same (Same.new hl)) ⟨_, upd_same, .cons (pA'.same (Same.new hl)) (.cons (pB'.same (Same.new hl)) .nil)⟩ (by simp) (by simp; omega) ?_ ?_
        · intro p hp
          simp only [List.mem_cons, List.not_mem_nil, or_false] at hp
          rcases hp with rfl | rfl
          · exact lA
          · exact lB
        · intro p hp
          simp only [List.mem_cons, List.not_mem_nil, or_false] at hp
          rcases hp with rfl | rfl
          · exact okA
          · exact okB
      · rw [if_neg (by decide)]
        refine q l [dsB, dsA] _ (ck.free' (x11.ne hl) hl) (chg_new ck hl) (x11.same (Same.new hl)) ⟨_, upd_same, .cons (pB'.same (Same.new hl)) (.cons (pA'.same (Same.new hl)) .nil)⟩ (by simp) (by simp; omega) ?_ ?_
        · intro p hp
          simp only [List.mem_cons, List.not_mem_nil, or_false] at hp
          rcases hp with rfl | rfl
          · exact lB
          · exact lA
        · intro p hp
          simp only [List.mem_cons, List.not_mem_nil, or_false] at hp
          rcases hp with rfl | rfl
          · exact okB
          · exact okA
    have ok3 : ∀ e ∈ [Deed.pop, .pop, .push z], okDeed e := by
      intro e he
      simp only [List.mem_cons, List.not_mem_nil, or_false] at he
      rcases he with rfl | rfl | rfl
      · trivial
      · trivial
      · exact ⟨by omega, by omega⟩
    have ok1 : ∀ e ∈ [Deed.pop], okDeed e := by
      intro e he
      simp only [List.mem_cons, List.not_mem_nil, or_false] at he
      rw [he]
      trivial
    by_cases w0 : w = 0
    · rw [if_pos w0]
      refine ⟨l1, us1, 0, v, rfl, rfl, hp1, by rw [hd1.length]; decide, by decide, by decide, ?_⟩
      have tup : Tups H8 (upd H8 l1 (.lst (List.take (Int.toNat 0) us1 ++ [v] ++ List.drop (Int.toNat 0) us1))) := fun b xs e => by
        rw [upd_ne (fun z => by rw [z, hp1] at e; cases e)]
        exact e
      refine fin _ (chg_fill cc f1) (x8.fill hp1 (ProgAt.ne x8 hp1 hd1)) (by rw [upd_ne n13.symm]; exact r5) ⟨ed :: [.pop], _, ⟨l1, _, rfl, upd_same, .cons (hv8.mono tup) (hd1.mono fun _ _ => DeedAt.mono tup)⟩, ProgAt.put hp1 hp2 hd2 n12.symm, ⟨by simp, by simp⟩, ?_, ok3⟩
      · intro e he
        rcases List.mem_cons.mp he with z | z
        · rw [z]; exact hed
        · exact ok1 e z
    · rw [if_neg w0]
      refine ⟨l2, us2, 0, v, rfl, rfl, hp2, by rw [hd2.length]; exact (by decide : 3 < sizeLine), by decide, by decide, ?_⟩
      have tup : Tups H8 (upd H8 l2 (.lst (List.take (Int.toNat 0) us2 ++ [v] ++ List.drop (Int.toNat 0) us2))) := fun b xs e => by
        rw [upd_ne (fun z => by rw [z, hp2] at e; cases e)]
        exact e
      refine fin _ (chg_fill cc f2) (x8.fill hp2 (ProgAt.ne x8 hp2 hd2)) (by rw [upd_ne n23.symm]; exact r5) ⟨[.pop], ed :: [.pop, .pop, .push z], ProgAt.put hp2 hp1 hd1 n12, ⟨l2, _, rfl, upd_same, .cons (hv8.mono tup) (hd2.mono fun _ _ => DeedAt.mono tup)⟩, ⟨by simp, by simp⟩, ok1, ?_⟩
      · intro e he
        rcases List.mem_cons.mp he with z | z
        · rw [z]; exact hed
        · exact ok3 e z
end SS

set_option Elab.async false
set_option linter.all false
set_option maxRecDepth 100000
set_option maxHeartbeats 4000000
namespace SS
open PySem L2
local macro_rules | `(tactic| walk_at "q") => `(tactic| ((try dsimp only); refine s_seq ?_))

/-! ### data of what stands on the heap -/
theorem seqT_same {K : PySem.W.Frag} {H H' : Hp} {a : Addr} {xs : List V} (e : Same H H') (h : SqT K H a xs) : SqT K H' a xs := by
  rcases h with (h | ⟨o, h⟩) | h
  · exact .inl (.inl (e _ _ h))
  · exact .inl (.inr ⟨o, e _ _ h⟩)
  · exact .inr h
mutual
theorem dp_same {K : PySem.W.Frag} {H H' : Hp} (c : Same H H') : ∀ (d : PyData) (v : V), Dp K H v d → Dp K H' v d
  | .none, _, h => by cases h; exact .non
  | .bool b, _, h => by cases h; exact .bl b
  | .int i, _, h => by cases h; exact .int i
  | .str x, _, h => by cases h; exact .str x
  | .list ds, _, h => by
    cases h with
    | lst hs ha => exact .lst (c.seq hs) (dpAll_same c ds _ ha)
  | .tuple ds, _, h => by
    cases h with
    | tup hs ha => exact .tup (seqT_same c hs) (dpAll_same c ds _ ha)
  | .dict _, _, h => by cases h
theorem dpAll_same {K : PySem.W.Frag} {H H' : Hp} (c : Same H H') : ∀ (ds : List PyData) (vs : List V), DpAll K H vs ds → DpAll K H' vs ds
  | [], _, h => by cases h; exact .nil
  | d :: ds, _, h => by
    cases h with
    | cons h1 h2 => exact .cons (dp_same c d _ h1) (dpAll_same c ds _ h2)
end
theorem dp_append {K : PySem.W.Frag} {H : Hp} : ∀ {vs ws : List V} {ds es : List PyData}, DpAll K H vs ds → DpAll K H ws es → DpAll K H (vs ++ ws) (ds ++ es)
  | _, _, _, _, .nil, h => h
  | _, _, _, _, .cons a b, h => .cons a (dp_append b h)
theorem dp_take {K : PySem.W.Frag} {H : Hp} : ∀ {vs : List V} {ds : List PyData} (n : Nat), DpAll K H vs ds → DpAll K H (vs.take n) (ds.take n)
  | _, _, 0, _ => by rw [List.take_zero, List.take_zero]; exact .nil
  | _, _, n + 1, .nil => .nil
  | _, _, n + 1, .cons a b => .cons a (dp_take n b)
theorem dp_get {K : PySem.W.Frag} {H : Hp} : ∀ {vs : List V} {ds : List PyData} (n : Nat) {d : PyData}, DpAll K H vs ds → ds[n]? = some d → ∃ v, vs[n]? = some v ∧ Dp K H v d
  | _, _, n, _, .nil, h => by cases n <;> cases h
  | _, _, 0, _, .cons a b, h => by cases h; exact ⟨_, rfl, a⟩
  | _, _, n + 1, _, .cons a b, h => by obtain ⟨v, h1, h2⟩ := dp_get n b (by simpa using h); exact ⟨v, by simpa using h1, h2⟩
theorem dp_of {α : Type} {K : PySem.W.Frag} {H : Hp} {R : V → α → Prop} {f : α → PyData} (g : ∀ v a, R v a → Dp K H v (f a)) : ∀ {vs : List V} {as : List α}, All2 R vs as → DpAll K H vs (as.map f)
  | _, _, .nil => .nil
  | _, _, .cons a b => .cons (g _ _ a) (dp_of g b)
theorem dp_len {K : PySem.W.Frag} {H : Hp} : ∀ {vs : List V} {ds : List PyData}, DpAll K H vs ds → vs.length = ds.length
  | _, _, .nil => rfl
  | _, _, .cons a b => congrArg (· + 1) (dp_len b)
def okD (n : Nat) (d : PyData) : Prop := d.canLay0 = true ∧ d.depth ≤ n
theorem okD.mono {n m : Nat} {d : PyData} (h : okD n d) (l : n ≤ m) : okD m d := ⟨h.1, Nat.le_trans h.2 l⟩
theorem okD_all {n : Nat} : ∀ {ds : List PyData}, (∀ d ∈ ds, okD n d) → PyData.canLayAll0 ds = true ∧ PyData.depthAll ds ≤ n
  | [], _ => by simp [PyData.canLayAll0, PyData.depthAll]
  | d :: ds, h => by
    obtain ⟨h1, h2⟩ := okD_all (ds := ds) fun x hx => h x (List.mem_cons_of_mem _ hx)
    obtain ⟨h3, h4⟩ := h d List.mem_cons_self
    simp only [PyData.canLayAll0, PyData.depthAll]
    exact ⟨by rw [h1, h3]; rfl, by omega⟩
theorem okD_list {n : Nat} {ds : List PyData} (h : ∀ d ∈ ds, okD n d) : okD (n + 1) (.list ds) := by
  obtain ⟨h1, h2⟩ := okD_all h
  exact ⟨by simp only [PyData.canLay0]; exact h1, by simp only [PyData.depth]; omega⟩
theorem okD_tup {n : Nat} {ds : List PyData} (h : ∀ d ∈ ds, okD n d) : okD (n + 1) (.tuple ds) := by
  obtain ⟨h1, h2⟩ := okD_all h
  exact ⟨by simp only [PyData.canLay0]; exact h1, by simp only [PyData.depth]; omega⟩
theorem okD_int (i : Int) : okD 0 (.int i) := ⟨by simp only [PyData.canLay0], by simp only [PyData.depth]; omega⟩
theorem okD_bool (i : Bool) : okD 0 (.bool i) := ⟨by simp only [PyData.canLay0], by simp only [PyData.depth]; omega⟩
theorem okD_none : okD 0 .none := ⟨by simp only [PyData.canLay0], by simp only [PyData.depth]; omega⟩
theorem okD_ints (l : List Int) : okD 1 (.list (l.map PyData.int)) := okD_list fun d h => by
  obtain ⟨i, _, rfl⟩ := List.mem_map.mp h
  exact okD_int i
theorem okD.shaped {n : Nat} {d : PyData} (h : okD n d) (l : n ≤ 64) : SeqAt.shaped d = true := by
  show (d.canLay0 && decide (d.depth ≤ 64)) = true
  rw [h.1, decide_eq_true (Nat.le_trans h.2 l)]
  rfl
theorem okD_strs : okD 0 (.str "takes") ∧ okD 0 (.str "reads") ∧ okD 0 (.str "ends") ∧ okD 0 (.str "links") ∧ okD 0 (.str "marks") ∧ okD 0 (.str "looks") ∧ okD 0 (.str "follows") ∧ okD 0 (.str "exchanges") ∧ okD 0 (.str "misses") ∧ okD 0 (.str "rests") ∧ okD 0 (.str "done") := by
  unfold okD
  decide +kernel
def ansD : Ans → PyData
  | .non => .none
  | .done => .str "done"
  | .val v => .int v
def tellDs : Tell → List PyData
  | .rests => [.str "rests"]
  | .takes c => [.str "takes", .int c]
  | .reads t => [.str "reads", .int t]
  | .ends a => [.str "ends", ansD a]
  | .links t => [.str "links", .int t]
  | .marks c => [.str "marks", .int c]
  | .looks b => [.str "looks", .bool b]
  | .follows n => [.str "follows", .int n]
  | .exchanges n => [.str "exchanges", .int n]
  | .misses => [.str "misses"]
def tellD (t : Tell) : PyData := .tuple (tellDs t)
theorem ansDp {K : PySem.W.Frag} {H : Hp} : ∀ a : Ans, Dp K H (ansV a) (ansD a)
  | .non => .non
  | .done => .str _
  | .val v => .int v
theorem tellDsDp {K : PySem.W.Frag} {H : Hp} : ∀ t : Tell, DpAll K H (tellVs t) (tellDs t)
  | .rests => .cons (.str _) .nil
  | .takes c => .cons (.str _) (.cons (.int _) .nil)
  | .reads c => .cons (.str _) (.cons (.int _) .nil)
  | .ends c => .cons (.str _) (.cons (ansDp _) .nil)
  | .links c => .cons (.str _) (.cons (.int _) .nil)
  | .marks c => .cons (.str _) (.cons (.int _) .nil)
  | .looks c => .cons (.str _) (.cons (.bl _) .nil)
  | .follows c => .cons (.str _) (.cons (.int _) .nil)
  | .exchanges c => .cons (.str _) (.cons (.int _) .nil)
  | .misses => .cons (.str _) .nil
theorem TellAt.dp {K : PySem.W.Frag} {H : Hp} {v : V} {t : Tell} (h : TellAt H v t) : Dp K H v (tellD t) := by
  obtain ⟨q, rfl, h⟩ := h
  exact .tup (SqT.of h) (tellDsDp t)
theorem okD_ans (a : Ans) : okD 0 (ansD a) := by
  cases a
  · exact okD_none
  · exact okD_strs.2.2.2.2.2.2.2.2.2.2
  · exact okD_int _
theorem okD_tell (t : Tell) : okD 1 (tellD t) := by
  obtain ⟨a, b, c, d, e, f, g, h, i, j, k⟩ := okD_strs
  refine okD_tup fun x hx => ?_
  cases t <;> simp only [tellDs, List.mem_cons, List.not_mem_nil, or_false] at hx
  · rw [hx]; exact j
  · rcases hx with rfl | rfl
    · exact a
    · exact okD_int _
  · rcases hx with rfl | rfl
    · exact b
    · exact okD_int _
  · rcases hx with rfl | rfl
    · exact c
    · exact okD_ans _
  · rcases hx with rfl | rfl
    · exact d
    · exact okD_int _
  · rcases hx with rfl | rfl
    · exact e
    · exact okD_int _
  · rcases hx with rfl | rfl
    · exact f
    · exact okD_bool _
  · rcases hx with rfl | rfl
    · exact g
    · exact okD_int _
  · rcases hx with rfl | rfl
    · exact h
    · exact okD_int _
  · rw [hx]; exact i
theorem okD_tells (ts : List Tell) : okD 2 (.list (ts.map tellD)) := okD_list fun d h => by
  obtain ⟨t, _, rfl⟩ := List.mem_map.mp h
  exact okD_tell t
theorem tells_dp {K : PySem.W.Frag} {H : Hp} {us : List V} {ts : List Tell} (h : All2 (TellAt H) us ts) : DpAll K H us (ts.map tellD) := dp_of (R := TellAt H) (f := tellD) (fun _ _ h => h.dp) h
/-- two that are the same are not different -/
theorem ne_same {K : PySem.W.Frag} {x y : V} {d : PyData} {H : Hp} {Q : VK} (h1 : Dp K H x d) (h2 : Dp K H y d) {n : Nat} (s : okD n d) (l : n ≤ 64) (q : Q (.bl false) H) : rNeD K x y H Q := by
  refine ⟨d, d, h1, h2, s.shaped l, s.shaped l, ?_⟩
  rw [SeqAt.eqv_refl d s.1]
  exact q
theorem eq_same {K : PySem.W.Frag} {x y : V} {d : PyData} {H : Hp} {Q : VK} (h1 : Dp K H x d) (h2 : Dp K H y d) {n : Nat} (s : okD n d) (l : n ≤ 64) (q : Q (.bl true) H) : rEqD K x y H Q := by
  refine ⟨d, d, h1, h2, s.shaped l, s.shaped l, ?_⟩
  rw [SeqAt.eqv_refl d s.1]
  exact q
theorem cut_take {xs : List V} (n : Nat) : cutV xs none (some (n : Int)) = xs.take n := by
  unfold cutV
  rw [HT.sIx_none, HT.sIx_nat, List.drop_zero, Nat.sub_zero]
  by_cases h : n ≤ xs.length
  · rw [Nat.min_eq_left h]
  · rw [Nat.min_eq_right (by omega), List.take_length, List.take_of_length_le (by omega)]

/-! ### what is drawn -/
structure CaseAt (Z : Cs) (H : Hp) (lv lp lr lw : Addr) (values : List Int) (ps : List (List Deed)) (r : Rule) (w : List Nat) : Prop where
  hv : H lv = some (.lst (values.map V.int))
  hp : PgAt H lp ps
  hr : RuleAt H lr r
  hw : H lw = some (.lst (w.map natV))
  ok : okIn values ps r
  hh : ∀ h ∈ w, h < ps.length
  wl : w.length ≤ 200
def sp_L_case (Z : Cs) : Sp := fun vs H Q _ => ∃ (d : Addr), vs = [.ref d] ∧ DiceAt Z.K H d ∧
  ∀ t lv lp lr lw values ps r w H', Chg (Dc d) H H' → DiceAt Z.K H' d → H' t = some (.tup [.ref lv, .ref lp, .ref lr, .ref lw]) → CaseAt Z H' lv lp lr lw values ps r w → lv ≠ d → lw ≠ d → Q (.ref t) H'
theorem CaseAt.dice {Z : Cs} {H H' : Hp} {d lv lp lr lw : Addr} {values : List Int} {ps : List (List Deed)} {r : Rule} {w : List Nat} (x : CaseAt Z H lv lp lr lw values ps r w) (c : Chg (Dc d) H H') (y : DiceAt Z.K H d) (n1 : lv ≠ d) (n2 : lw ≠ d) : CaseAt Z H' lv lp lr lw values ps r w :=
  ⟨c.ne x.hv n1, x.hp.dice c y, x.hr.mono c.tup, c.ne x.hw n2, x.ok, x.hh, x.wl⟩
theorem CaseAt.same {Z : Cs} {H H' : Hp} {lv lp lr lw : Addr} {values : List Int} {ps : List (List Deed)} {r : Rule} {w : List Nat} (x : CaseAt Z H lv lp lr lw values ps r w) (c : Same H H') : CaseAt Z H' lv lp lr lw values ps r w :=
  ⟨c _ _ x.hv, x.hp.same c, x.hr.mono fun b xs e => c _ _ e, c _ _ x.hw, x.ok, x.hh, x.wl⟩
theorem PgAt.progs {K : PySem.W.Frag} {H : Hp} {l : Addr} {ps : List (List Deed)} (h : PgAt H l ps) : ProgsAt K H l ps := let ⟨us, h1, h2⟩ := h; ⟨us, SqL.of h1, h2⟩
/-- _law_case: 0 _law_d, 1 _law_values_here, 2 _law_programs_here -/
def t_L_case (Z : Cs) : TS :=
  tSeq (tAsg (tCall (sp_L_values Z) [] E0 (tCons (tVar 0) (tCons (tC (.int 6)) tNil))) (gName 1))
    (tSeq (tAsg (tCall (sp_L_programs Z) [] E0 (tCons (tVar 0) (tCons (tC (.int 3)) (tCons (tC (.int 4)) tNil)))) (gName 2))
    ((tRet (tTup (tCons (tVar 1) (tCons (tVar 2) (tCons (tCall (sp_L_rule Z) [] E0 (tCons (tVar 0) (tCons (tCB (rLen1 Z.K) (tCons (tVar 2) tNil)) tNil))) (tCons (tSl (rSlL Z.K) (tCall (sp_L_weaving Z) [] E0 (tCons (tVar 0) (tCons (tCB (rLen1 Z.K) (tCons (tVar 2) tNil)) (tCons (tC (.int 40)) tNil)))) tNoPart (tPart (tC (.int 200)))) tNil))))))))

theorem pure_L_case {Z : Cs} (vs : List V) (H : Hp) (Q : VK) (E : XK) (h : sp_L_case Z vs H Q E) : t_L_case Z { nx := fun _ H' => Q .non H', rt := Q } (start ["_law_d", "_law_values_here", "_law_programs_here"] vs) H := by
  obtain ⟨d, rfl, x, q⟩ := h
  unfold t_L_case
  walk_at "q"
  refine s_asg_of (s_call (ea_cons (ev_var rfl) (ea_cons (ev_N 6 rfl) ea_nil)) ⟨d, 6, rfl, x, by decide, fun lv values H1 f1 c1 x1 hv l1 ov => ?_⟩)
  show ({ nx := _, rt := Q : Ends }).nx _ _
  have n1 : lv ≠ d := x.ne f1
  walk_at "q"
  refine s_asg_of (s_call (ea_cons (ev_var rfl) (ea_cons (ev_N 3 rfl) (ea_cons (ev_N 4 rfl) ea_nil))) ⟨d, 3, 4, rfl, x1, by decide, by decide, by decide, fun lp ps H2 f2 c2 x2 hp l2 l3 l4 od => ?_⟩)
  show ({ nx := tRet _ _, rt := Q : Ends }).nx _ _
  dsimp only
  have hv2 := c2.ne hv n1
  have lenP : ∀ H', PgAt H' lp ps → ∀ s : L2.St, s[2]? = some (some (.ref lp)) → Ev (tCB (rLen1 Z.K) (tCons (tVar 2) tNil)) s H' (.int ps.length) := fun H' ⟨us, h1, h2⟩ s hs => by
    have := h2.length
    rw [← this]
    exact ev_lenL (ev_var hs) (SqL.of h1)
  refine s_ret_of (t_tup_of (t_cons_of (ev_var rfl _ (t_cons_of (ev_var rfl _ (t_cons_of (s_call (ea_cons (ev_var rfl) (ea_cons (lenP _ hp _ rfl) ea_nil)) ⟨d, ps.length, rfl, x2, by omega, fun lr r H3 c3 x3 hr or => ?_⟩)))))))
  have hv3 := c3.ne hv2 n1
  have hp3 := hp.dice c3 x2
  refine t_cons_of (s_call (ea_cons (ev_var rfl) (ea_cons (lenP _ hp3 _ rfl) (ea_cons (ev_N 40 rfl) ea_nil))) ⟨d, ps.length, 40, rfl, x3, by omega, by omega, by decide, by decide, fun lw w H4 f4 c4 x4 hw hh wl => ?_⟩)
  refine ⟨200, rfl, lw, _, rfl, SqL.of hw, fun p hpn => ?_⟩
  have ec : cutV (w.map natV) none (some 200) = (w.map natV).take 200 := cut_take 200
  rw [ec]
  have S5 : Same H4 (upd H4 p (.lst ((w.map natV).take 200))) := Same.new hpn
  refine ⟨by show 4 ≤ sizeLine; decide, fun t ht => ?_⟩
  have S6 : Same (upd H4 p (.lst ((w.map natV).take 200))) (upd (upd H4 p (.lst ((w.map natV).take 200))) t (.tup [.ref lv, .ref lp, .ref lr, .ref p])) := Same.new ht
  have np : p ≠ d := x4.ne hpn
  refine q t lv lp lr p values ps r (w.take 200) _ (((c1.trans c2).trans (c3.trans c4)).trans (Chg.same (Same.trans S5 S6))) (x4.same (Same.trans S5 S6)) upd_same ⟨S6 _ _ (S5 _ _ (c4.ne hv3 n1)), (hp3.dice c4 x3).same (Same.trans S5 S6), hr.mono fun b xs e => S6 _ _ (S5 _ _ (c4.tup _ _ e)), ?_, ?_, ?_, ?_⟩ n1 np
  · have : (upd H4 p (.lst ((w.map natV).take 200))) p = some (.lst ((w.map natV).take 200)) := upd_same
    rw [← List.map_take] at this
    rw [← List.map_take]
    rw [← List.map_take] at S6
    exact S6 _ _ this
  · exact ⟨l1, ov, ⟨l2, l3⟩, l4, od, or⟩
  · exact fun h hm => hh h (List.mem_of_mem_take hm)
  · rw [List.length_take]
    omega
end SS

set_option Elab.async false
set_option linter.all false
set_option maxRecDepth 100000
set_option maxHeartbeats 4000000
namespace SS
open PySem L2
local macro_rules | `(tactic| walk_at "q") => `(tactic| ((try dsimp only); refine s_seq ?_))

def saidD (x : Hd) : PyData := .list (x.said.map ansD)
def pairD (p : Nat × Nat) : PyData := .tuple [.int p.1, .int p.2]
def natsD (l : List Nat) : PyData := .list ((l.map Int.ofNat).map PyData.int)
def orderD (m : M) : PyData := .list (m.ends.map pairD)
/-- how a machine stands -/
def standL (m : M) : List PyData := (m.hands.map saidD ++ (m.hands.map fun x : Hd => (Int.ofNat x.mark)).map PyData.int) ++ [orderD m, .tuple [.int m.top, .int m.count], natsD m.links, natsD m.freed, natsD m.pile] ++ [.list (m.pileValues.map PyData.int), .bool m.strayed, .bool m.isDone]
def standD (m : M) : PyData := .list (standL m)
theorem okD_said (x : Hd) : okD 1 (saidD x) := okD_list fun d h => by
  obtain ⟨a, _, rfl⟩ := List.mem_map.mp h
  exact okD_ans a
theorem okD_pair (p : Nat × Nat) : okD 1 (pairD p) := okD_tup fun d h => by
  simp only [List.mem_cons, List.not_mem_nil, or_false] at h
  rcases h with rfl | rfl
  · exact okD_int _
  · exact okD_int _
theorem okD_order (l : List (Nat × Nat)) : okD 2 (.list (l.map pairD)) := okD_list fun d h => by
  obtain ⟨a, _, rfl⟩ := List.mem_map.mp h
  exact okD_pair a
theorem okD_stand (m : M) : okD 3 (standD m) := okD_list fun d h => by
  unfold standL at h
  simp only [List.mem_append, List.mem_cons, List.not_mem_nil, or_false] at h
  rcases h with ((h | h) | h) | h
  · obtain ⟨a, _, rfl⟩ := List.mem_map.mp h
    exact (okD_said a).mono (by decide)
  · obtain ⟨a, _, rfl⟩ := List.mem_map.mp h
    exact (okD_int _).mono (by decide)
  · rcases h with rfl | rfl | rfl | rfl | rfl
    · exact okD_order _
    · exact (okD_pair (m.top, m.count)).mono (by decide)
    · exact (okD_ints _).mono (by decide)
    · exact (okD_ints _).mono (by decide)
    · exact (okD_ints _).mono (by decide)
  · rcases h with rfl | rfl | rfl
    · exact (okD_ints _).mono (by decide)
    · exact (okD_bool _).mono (by decide)
    · exact (okD_bool _).mono (by decide)
theorem nats_map (l : List Nat) : l.map natV = (l.map Int.ofNat).map V.int := by
  rw [List.map_map]
  rfl
theorem natsDp {K : PySem.W.Frag} {H : Hp} {a : Addr} {l : List Nat} (h : H a = some (.lst (l.map natV))) : Dp K H (.ref a) (natsD l) := by
  rw [nats_map] at h
  exact .lst (SqL.of h) (dp_ints _)
theorem saidDp {K : PySem.W.Frag} {H : Hp} {a : Addr} {x : Hd} (h : H a = some (.lst (x.said.map ansV))) : Dp K H (.ref a) (saidD x) := by
  refine .lst (SqL.of h) ?_
  generalize x.said = l
  induction l with
  | nil => exact .nil
  | cons a l ih => exact .cons (ansDp a) ih
theorem saidsDp {K : PySem.W.Frag} {H : Hp} : ∀ {as : List Addr} {hs : List Hd}, All2 (fun (a : Addr) (x : Hd) => H a = some (.lst (x.said.map ansV))) as hs → DpAll K H (as.map V.ref) (hs.map saidD)
  | _, _, .nil => .nil
  | _, _, .cons a b => .cons (saidDp a) (saidsDp b)
theorem PairAt.dp {K : PySem.W.Frag} {H : Hp} {v : V} {p : Nat × Nat} (h : PairAt H v p) : Dp K H v (pairD p) := by
  obtain ⟨q, rfl, h⟩ := h
  exact .tup (SqT.of h) (.cons (.int _) (.cons (.int _) .nil))
theorem orderDp {K : PySem.W.Frag} {H : Hp} {a : Addr} {us : List V} {l : List (Nat × Nat)} (h : H a = some (.lst us)) (hu : All2 (PairAt H) us l) : Dp K H (.ref a) (.list (l.map pairD)) :=
  .lst (SqL.of h) (dp_of (R := PairAt H) (f := pairD) (fun _ _ h => h.dp) hu)
def sp_L_stand (Z : Cs) : Sp := fun vs H Q _ => ∃ (A : MA) (m : M) (n : Nat), vs = [.ref A.p, .int n] ∧ MachAt Z H A m ∧ n = m.hands.length ∧ n ≤ 3 ∧ PileOk m ∧ ∀ v H', Same H H' → Dp Z.K H' v (standD m) → Q v H'
/-- _law_stand: 0 _law_machine, 1 _law_hands, 2 _law_found, 3 _law_hand -/
def t_L_stand (Z : Cs) : TS :=
  tSeq (tAsg (tOp rCat (tLc (iRng1 (tCons (tVar 1) tNil)) (gName 3) tYes (tMeth Z.M "answers" (sp_M_answers Z) [] E0 (tVar 0) (tCons (tVar 3) tNil)) [3]) (tLc (iRng1 (tCons (tVar 1) tNil)) (gName 3) tYes (tMeth Z.M "marked" (sp_M_marked Z) [] E0 (tVar 0) (tCons (tVar 3) tNil)) [3])) (gName 2))
    (tSeq (tAsg (tOp rCat (tVar 2) (tLst (tCons (tMeth Z.M "order" (sp_M_order Z) [] E0 (tVar 0) tNil) (tCons (tMeth Z.M "top_now" (sp_M_top_now Z) [] E0 (tVar 0) tNil) (tCons (tMeth Z.M "nexts" (sp_M_nexts Z) [] E0 (tVar 0) tNil) (tCons (tMeth Z.M "free" (sp_M_free Z) [] E0 (tVar 0) tNil) (tCons (tMeth Z.M "pile" (sp_M_pile Z) [] E0 (tVar 0) tNil) tNil))))))) (gName 2))
    ((tRet (tOp rCat (tVar 2) (tLst (tCons (tMeth Z.M "pile_values" (sp_M_pile_values Z) [] E0 (tVar 0) tNil) (tCons (tMeth Z.M "is_stale" (sp_M_is_stale Z) [] E0 (tVar 0) tNil) (tCons (tMeth Z.M "is_done" (sp_M_is_done Z) [] E0 (tVar 0) tNil) tNil))))))))

theorem pure_L_stand {Z : Cs} (vs : List V) (H : Hp) (Q : VK) (E : XK) (h : sp_L_stand Z vs H Q E) : t_L_stand Z { nx := fun _ H' => Q .non H', rt := Q } (start ["_law_machine", "_law_hands", "_law_found", "_law_hand"] vs) H := by
  obtain ⟨A, m, n, rfl, T, hn, h3, pk, q⟩ := h
  unfold t_L_stand
  walk_at "q"
  refine s_asg_of (t_op_of (e_lcR (n := n) (ev_var rfl) (by omega) (fun D i H' => Same H H' ∧ ∃ as : List Addr, H' D = some (.lst (as.map V.ref)) ∧ All2 (fun (a : Addr) (x : Hd) => H' a = some (.lst (x.said.map ansV))) as (m.hands.take i) ∧ ∀ a ∈ as, a ≠ D)
    (fun D hD => ⟨Same.new hD, [], upd_same, by rw [List.take_zero]; exact .nil, fun _ h => by cases h⟩) (fun D i H' hi hD p => ?_) (fun D H1 hD p => ?_)))
  · obtain ⟨s3, as, hL, ha, fr⟩ := p
    have T4 := T.same s3
    obtain ⟨a, hah⟩ := T4.hand_of (i := i) (by omega)
    refine ⟨rfl, et_yes _ (iteT (s_meth (ev_var rfl) T4.obj (mf_no _ _ _ (by simp)) (ea_cons (ev_var rfl) ea_nil) ⟨A, m, i, a, rfl, T4, hah, fun l hl => ?_⟩))⟩
    have lD : l ≠ D := fun z => by rw [z, hL] at hl; cases hl
    have hi2 : m.hands[i]? = some (m.hd i) := by
      unfold M.hd
      rw [List.getD_eq_getElem?_getD, List.getElem?_eq_getElem (by omega)]
      rfl
    have hal := ha.length
    rw [List.length_take] at hal
    refine ⟨as.map V.ref, by rw [upd_ne lD.symm]; exact hL, ?_, ?_, as ++ [l], ?_, ?_, ?_⟩
    · rw [List.length_map, hal]
      exact Nat.lt_of_le_of_lt (by omega : _ ≤ 3) (by decide)
    · exact same_newer (fun b o e => Same.new hl _ _ (s3 b o e)) hD
    · rw [List.map_append]
      exact upd_same
    · rw [take_snoc hi2]
      refine (All2.mono2 (fun a x hm e => ?_) ha).snoc ?_
      · rw [upd_ne (fr a hm), upd_ne (fun z => by rw [z, hl] at e; cases e)]
        exact e
      · rw [upd_ne lD, upd_same]
    · intro b hb
      rcases List.mem_append.mp hb with h | h
      · exact fr b h
      · have hb' : b = l := by simpa using h
        subst hb'
        exact lD
  · obtain ⟨s1, as, hL, ha, _⟩ := p
    rw [hn, List.take_length] at ha
    have T1 := T.same s1
    have all := ha.length
    refine e_lcR (n := n) (ev_var rfl) (by omega) (fun D2 i H' => Same H1 H' ∧ H' D2 = some (.lst ((m.hands.take i).map fun x : Hd => natV x.mark)))
      (fun D2 hD => ⟨Same.new hD, by rw [List.take_zero]; exact upd_same⟩) (fun D2 i H' hi hD2 p => ?_) (fun D2 H2 hD2 p => ?_)
    · obtain ⟨s3, hL2⟩ := p
      have T4 := T1.same s3
      obtain ⟨a, hah⟩ := T4.hand_of (i := i) (by omega)
      have hi2 : m.hands[i]? = some (m.hd i) := by
        unfold M.hd
        rw [List.getD_eq_getElem?_getD, List.getElem?_eq_getElem (by omega)]
        rfl
      refine ⟨rfl, et_yes _ (iteT (s_meth (ev_var rfl) T4.obj (mf_no _ _ _ (by simp)) (ea_cons (ev_var rfl) ea_nil) ⟨A, m, i, a, rfl, T4, hah, ⟨_, hL2, ?_, same_newer s3 hD2, ?_⟩⟩))⟩
      · rw [List.length_map, List.length_take]
        exact Nat.lt_of_le_of_lt (by omega : _ ≤ 3) (by decide)
      · rw [take_snoc hi2, List.map_append]
        exact upd_same
    · obtain ⟨s2, hL2⟩ := p
      rw [hn, List.take_length] at hL2
      have T2 := T1.same s2
      have d1 : DpAll Z.K H2 (as.map V.ref) (m.hands.map saidD) := dpAll_same s2 _ _ (saidsDp ha)
      have e2 : (m.hands.map fun x : Hd => natV x.mark) = (m.hands.map fun x : Hd => (Int.ofNat x.mark)).map V.int := by
        rw [List.map_map]
        rfl
      refine ⟨D, D2, _, _, rfl, rfl, s2 _ _ hL, hL2, ?_, fun p hp => ?_⟩
      · rw [List.length_map, List.length_map, all]
        exact Nat.le_trans (by omega : _ ≤ 6) (by decide)
      show ({ nx := _, rt := Q : Ends }).nx _ _
      have sp : Same H2 (upd H2 p (.lst (as.map V.ref ++ m.hands.map fun x : Hd => natV x.mark))) := Same.new hp
      have hP : (upd H2 p (.lst (as.map V.ref ++ m.hands.map fun x : Hd => natV x.mark))) p = some (.lst (as.map V.ref ++ m.hands.map fun x : Hd => natV x.mark)) := upd_same
      have mk2 : ∀ H' : Hp, DpAll Z.K H' (m.hands.map fun x : Hd => natV x.mark) ((m.hands.map fun x : Hd => (Int.ofNat x.mark)).map PyData.int) := fun H' => by
        rw [e2]
        exact dp_ints _
      have d2 := dp_append (dpAll_same sp _ _ d1) (mk2 _)
      have T3 := T2.same sp
      have S3 : Same H (upd H2 p (.lst (as.map V.ref ++ m.hands.map fun x : Hd => natV x.mark))) := Same.trans s1 (Same.trans s2 sp)
      have lenU : (as.map V.ref ++ m.hands.map fun x : Hd => natV x.mark).length ≤ 6 := by
        rw [List.length_append, List.length_map, List.length_map, all]
        omega
      generalize (as.map V.ref ++ m.hands.map fun x : Hd => natV x.mark) = us at hP d2 T3 S3 lenU
      generalize upd H2 p (.lst us) = H3 at hP d2 T3 S3
      clear sp d1 hL2 hL
      walk_at "q"
      refine s_asg_of (t_op_of (ev_var rfl _ (t_lst_of (t_cons_of (s_meth (ev_var rfl) T3.obj (mf_no _ _ _ (by simp)) ea_nil ⟨A, m, rfl, T3, fun l1 u1 hl1 hu1 => ?_⟩)))))
      have k1 : Same H3 (upd H3 l1 (.lst u1)) := Same.new hl1
      have D1 : Dp Z.K (upd H3 l1 (.lst u1)) (.ref l1) (orderD m) := orderDp upd_same (hu1.mono fun _ _ => PairAt.mono fun b xs e => k1 _ _ e)
      generalize upd H3 l1 (.lst u1) = H4 at k1 D1 ⊢
      have T4 := T3.same k1
      refine t_cons_of (s_meth (ev_var rfl) T4.obj (mf_no _ _ _ (by simp)) ea_nil ⟨A, m, rfl, T4, fun l2 hl2 => ?_⟩)
      have k2 : Same H4 (upd H4 l2 (.tup [natV m.top, natV m.count])) := Same.new hl2
      have D2 : Dp Z.K (upd H4 l2 (.tup [natV m.top, natV m.count])) (.ref l2) (.tuple [.int m.top, .int m.count]) := .tup (SqT.of upd_same) (.cons (.int _) (.cons (.int _) .nil))
      generalize upd H4 l2 (.tup [natV m.top, natV m.count]) = H5 at k2 D2 ⊢
      have T5 := T4.same k2
      refine t_cons_of (s_meth (ev_var rfl) T5.obj (mf_no _ _ _ (by simp)) ea_nil ⟨A, m, rfl, T5, fun l3 hl3 => ?_⟩)
      have k3 : Same H5 (upd H5 l3 (.lst (m.links.map natV))) := Same.new hl3
      have D3 : Dp Z.K (upd H5 l3 (.lst (m.links.map natV))) (.ref l3) (natsD m.links) := natsDp upd_same
      generalize upd H5 l3 (.lst (m.links.map natV)) = H6 at k3 D3 ⊢
      have T6 := T5.same k3
      refine t_cons_of (s_meth (ev_var rfl) T6.obj (mf_no _ _ _ (by simp)) ea_nil ⟨A, m, rfl, T6, fun l4 hl4 => ?_⟩)
      have k4 : Same H6 (upd H6 l4 (.lst (m.freed.map natV))) := Same.new hl4
      have D4 : Dp Z.K (upd H6 l4 (.lst (m.freed.map natV))) (.ref l4) (natsD m.freed) := natsDp upd_same
      generalize upd H6 l4 (.lst (m.freed.map natV)) = H7 at k4 D4 ⊢
      have T7 := T6.same k4
      refine t_cons_of (s_meth (ev_var rfl) T7.obj (mf_no _ _ _ (by simp)) ea_nil ⟨A, m, rfl, T7, pk, fun l5 H8 hl5 k5 e5 => ?_⟩)
      have D5 : Dp Z.K H8 (.ref l5) (natsD m.pile) := natsDp e5
      have T8 := T7.same k5
      refine ⟨by show 5 ≤ sizeLine; decide, fun p2 hp2 => ?_⟩
      have k6 : Same H8 (upd H8 p2 (.lst [.ref l1, .ref l2, .ref l3, .ref l4, .ref l5])) := Same.new hp2
      have K35 : Same H3 H8 := Same.trans k1 (Same.trans k2 (Same.trans k3 (Same.trans k4 k5)))
      have hP2 := k6 _ _ (K35 _ _ hP)
      have T9 := T8.same k6
      refine ⟨p, p2, us, _, rfl, rfl, hP2, upd_same, Nat.le_trans (by show us.length + 5 ≤ 11; omega) (by decide), fun p3 hp3 => ?_⟩
      have A5 : DpAll Z.K (upd H8 p2 (.lst [.ref l1, .ref l2, .ref l3, .ref l4, .ref l5])) [.ref l1, .ref l2, .ref l3, .ref l4, .ref l5] [orderD m, .tuple [.int m.top, .int m.count], natsD m.links, natsD m.freed, natsD m.pile] :=
        dpAll_same k6 _ _ (.cons (dp_same (Same.trans k2 (Same.trans k3 (Same.trans k4 k5))) _ _ D1) (.cons (dp_same (Same.trans k3 (Same.trans k4 k5)) _ _ D2) (.cons (dp_same (Same.trans k4 k5) _ _ D3) (.cons (dp_same k5 _ _ D4) (.cons D5 .nil)))))
      have A6 := dp_append (dpAll_same (Same.trans K35 k6) _ _ d2) A5
      have S8 : Same H (upd H8 p2 (.lst [.ref l1, .ref l2, .ref l3, .ref l4, .ref l5])) := Same.trans S3 (Same.trans K35 k6)
      have k7 : Same (upd H8 p2 (.lst [.ref l1, .ref l2, .ref l3, .ref l4, .ref l5])) (upd (upd H8 p2 (.lst [.ref l1, .ref l2, .ref l3, .ref l4, .ref l5])) p3 (.lst (us ++ [.ref l1, .ref l2, .ref l3, .ref l4, .ref l5]))) := Same.new hp3
      have hP3 : (upd (upd H8 p2 (.lst [.ref l1, .ref l2, .ref l3, .ref l4, .ref l5])) p3 (.lst (us ++ [.ref l1, .ref l2, .ref l3, .ref l4, .ref l5]))) p3 = some (.lst (us ++ [.ref l1, .ref l2, .ref l3, .ref l4, .ref l5])) := upd_same
      show ({ nx := tRet _ _, rt := Q : Ends }).nx _ _
      dsimp only
      have A7 := dpAll_same k7 _ _ A6
      have TA := T9.same k7
      have SA := Same.trans S8 k7
      generalize upd (upd H8 p2 (.lst [.ref l1, .ref l2, .ref l3, .ref l4, .ref l5])) p3 (.lst (us ++ [.ref l1, .ref l2, .ref l3, .ref l4, .ref l5])) = H9 at hP3 A7 TA SA ⊢
      refine s_ret_of (t_op_of (ev_var rfl _ (t_lst_of (t_cons_of (s_meth (ev_var rfl) TA.obj (mf_no _ _ _ (by simp)) ea_nil ⟨A, m, rfl, TA, pk, fun l6 HA hl6 k8 e8 => ?_⟩)))))
      have TB := TA.same k8
      refine t_cons_of (s_meth (ev_var rfl) TB.obj (mf_no _ _ _ (by simp)) ea_nil ⟨A, m, rfl, TB, ?_⟩)
      refine t_cons_of (s_meth (ev_var rfl) TB.obj (mf_no _ _ _ (by simp)) ea_nil ⟨A, m, rfl, TB, by omega, fun HB k9 => ?_⟩)
      refine ⟨by show 3 ≤ sizeLine; decide, fun p4 hp4 => ?_⟩
      have ka : Same HB (upd HB p4 (.lst [.ref l6, .bl m.strayed, .bl m.isDone])) := Same.new hp4
      refine ⟨p3, p4, _, _, rfl, rfl, ka _ _ (k9 _ _ (k8 _ _ hP3)), upd_same, Nat.le_trans (by rw [List.length_append]; show us.length + 5 + 3 ≤ 14; omega) (by decide), fun p5 hp5 => ?_⟩
      have kb : Same (upd HB p4 (.lst [.ref l6, .bl m.strayed, .bl m.isDone])) (upd (upd HB p4 (.lst [.ref l6, .bl m.strayed, .bl m.isDone])) p5 (.lst ((us ++ [.ref l1, .ref l2, .ref l3, .ref l4, .ref l5]) ++ [.ref l6, .bl m.strayed, .bl m.isDone]))) := Same.new hp5
      have D6 : Dp Z.K HA (.ref l6) (.list (m.pileValues.map PyData.int)) := .lst (SqL.of e8) (dp_ints _)
      refine q _ _ (Same.trans SA (Same.trans k8 (Same.trans k9 (Same.trans ka kb)))) (.lst (SqL.of upd_same) (dp_append (dpAll_same (Same.trans k8 (Same.trans k9 (Same.trans ka kb))) _ _ A7) (.cons (dp_same (Same.trans k9 (Same.trans ka kb)) _ _ D6) (.cons (.bl _) (.cons (.bl _) .nil)))))
end SS

set_option Elab.async false
set_option linter.all false
set_option maxRecDepth 100000
set_option maxHeartbeats 4000000
namespace SS
open PySem L2
local macro_rules | `(tactic| walk_at "q") => `(tactic| ((try dsimp only); refine s_seq ?_))

/-! ### steps told, by parts -/
theorem tells_get {h : Nat} : ∀ {w : List Nat} {m : M} {k : Nat}, w[k]? = some h → (m.tells w)[k]? = some ((m.run (w.take k)).turn h).1
  | [], m, k, e => by cases k <;> cases e
  | x :: w, m, 0, e => by
    have : x = h := by simpa using e
    subst this
    rfl
  | x :: w, m, k + 1, e => by
    have e' : w[k]? = some h := by simpa using e
    exact tells_get (w := w) (m := m.step x) e'
theorem tells_take : ∀ (n : Nat) (w : List Nat) (m : M), (m.tells w).take n = m.tells (w.take n)
  | 0, w, m => by rw [List.take_zero, List.take_zero]; rfl
  | n + 1, [], m => rfl
  | n + 1, x :: w, m => congrArg ((m.turn x).1 :: ·) (tells_take n w (m.step x))
theorem step_ends (m : M) (h : Nat) : ∃ l, (m.step h).ends = m.ends ++ l := by
  have z : ∀ l : List (Nat × Nat), l = m.ends → ∃ l', l = m.ends ++ l' := fun l e => ⟨[], by rw [e, List.append_nil]⟩
  unfold M.step M.turn
  split
  · exact z _ rfl
  · split
    · cases hp : pick m.rule m.marked m.freed with
      | some c =>
        rw [taken_some hp]
        exact z _ rfl
      | none =>
        rw [taken_none hp]
        exact z _ rfl
    · split
      · unfold M.read
        split
        · exact ⟨[_], rfl⟩
        · exact z _ rfl
      · unfold M.push
        split
        · exact z _ rfl
        · split
          · exact ⟨[_], rfl⟩
          · exact z _ rfl
  · split
    · unfold M.read
      split
      · exact ⟨[_], rfl⟩
      · exact z _ rfl
    · unfold M.pop M.guard
      split
      · exact z _ rfl
      · split
        · split
          · exact z _ rfl
          · split <;> exact z _ rfl
        · split
          · exact z _ rfl
          · split
            · exact ⟨[_], rfl⟩
            · exact z _ rfl
theorem run_ends : ∀ (w : List Nat) (m : M), ∃ l, (m.run w).ends = m.ends ++ l
  | [], m => ⟨[], (List.append_nil _).symm⟩
  | h :: w, m => by
    obtain ⟨a, ha⟩ := step_ends m h
    obtain ⟨b, hb⟩ := run_ends w (m.step h)
    exact ⟨a ++ b, by rw [← List.append_assoc, ← ha]; exact hb⟩
theorem finish_ends : ∀ (n : Nat) (m : M), ∃ l, (M.finish n m).ends = m.ends ++ l
  | 0, m => ⟨[], (List.append_nil _).symm⟩
  | n + 1, m => by
    unfold M.finish
    split
    · exact ⟨[], (List.append_nil _).symm⟩
    · obtain ⟨a, ha⟩ := run_ends (List.range m.hands.length) m
      obtain ⟨b, hb⟩ := finish_ends n m.round
      exact ⟨a ++ b, by rw [← List.append_assoc, ← ha]; exact hb⟩

/-! ### two machines, apart -/
structure Two (Z : Cs) (H0 H : Hp) (A B : MA) (m n : M) : Prop where
  s : Same H0 H
  a : MachAt Z H A m
  b : MachAt Z H B n
structure Apart (H0 : Hp) (A B : MA) : Prop where
  fa : ∀ a, A.owns a → H0 a = none
  fb : ∀ a, B.owns a → H0 a = none
  n : ∀ a, A.owns a → ¬ B.owns a
theorem Two.same {Z : Cs} {H0 H H' : Hp} {A B : MA} {m n : M} (t : Two Z H0 H A B m n) (c : Same H H') : Two Z H0 H' A B m n := ⟨Same.trans t.s c, t.a.same c, t.b.same c⟩
theorem Two.turnA {Z : Cs} {H0 H H' : Hp} {A B : MA} {m n m' : M} (t : Two Z H0 H A B m n) (p : Apart H0 A B) (T : MachAt Z H' A m') (c : Chg A.owns H H') : Two Z H0 H' A B m' n := ⟨same_own t.s c p.fa, T, t.b.chg c fun a hb ha => p.n a ha hb⟩
theorem Two.turnB {Z : Cs} {H0 H H' : Hp} {A B : MA} {m n n' : M} (t : Two Z H0 H A B m n) (p : Apart H0 A B) (T : MachAt Z H' B n') (c : Chg B.owns H H') : Two Z H0 H' A B m n' := ⟨same_own t.s c p.fb, t.a.chg c fun a ha hb => p.n a ha hb, T⟩
theorem s_par_of {i j : Nat} {ta : TA} {D : Ends} {s : L2.St} {H : Hp} (h : ta s H fun vs H1 => ∃ v w, vs = [v, w] ∧ D.nx ((s.set i (some v)).set j (some w)) H1) : tPar i j ta D s H := h
theorem t_sl_of {r : V → Option Int → Option Int → Hp → VK → Prop} {te tp : TE} {s : L2.St} {H : Hp} {Q : VK} (h : te s H fun x H1 => tp s H1 fun y H2 => ∃ i, y = .int i ∧ r x none (some i) H2 Q) : tSl r te tNoPart (tPart tp) s H Q := h
theorem sl_take {K : PySem.W.Frag} {l : Addr} {xs : List V} {n : Nat} {H : Hp} {Q : VK} (hl : SqL K H l xs) (q : ∀ p, H p = none → Q (.ref p) (upd H p (.lst (xs.take n)))) : rSlL K (.ref l) none (some (n : Int)) H Q := ⟨l, xs, rfl, hl, fun p hp => by rw [cut_take]; exact q p hp⟩
theorem t_slN {K : PySem.W.Frag} {te tp : TE} {s : L2.St} {H : Hp} {Q : VK} {l : Addr} {xs : List V} {n : Nat} (h1 : Ev te s H (.ref l)) (h2 : Ev tp s H (.int n)) (hl : SqL K H l xs) (q : ∀ p, H p = none → Q (.ref p) (upd H p (.lst (xs.take n)))) : tSl (rSlL K) te tNoPart (tPart tp) s H Q :=
  t_sl_of (h1 _ (h2 _ ⟨_, rfl, sl_take hl q⟩))
theorem ne_skip {K : PySem.W.Frag} {x y : V} {d : PyData} {H : Hp} {tu : TS} {D : Ends} {st : L2.St} {n : Nat} (h1 : Dp K H x d) (h2 : Dp K H y d) (s : okD n d) (l : n ≤ 64) (k : D.nx st H) : rNeD K x y H (fun x H1 => ∃ k, x = .bl k ∧ if k = true then tu D st H1 else tNext D st H1) :=
  ne_same h1 h2 s l ⟨false, rfl, iteF k⟩
theorem ev_lenP {Z : Cs} {H : Hp} {n : Nat} {lp : Addr} {ps : List (List Deed)} {s : L2.St} (h : PgAt H lp ps) (hs : s[n]? = some (some (.ref lp))) : Ev (tCB (rLen1 Z.K) (tCons (tVar n) tNil)) s H (.int ps.length) := by
  obtain ⟨us, h1, h2⟩ := h
  rw [← h2.length]
  exact ev_lenL (ev_var hs) (SqL.of h1)
theorem ev_lenW {Z : Cs} {H : Hp} {n : Nat} {lw : Addr} {w : List Nat} {s : L2.St} (h : H lw = some (.lst (w.map natV))) (hs : s[n]? = some (some (.ref lw))) : Ev (tCB (rLen1 Z.K) (tCons (tVar n) tNil)) s H (.int w.length) := by
  have : w.length = (w.map natV).length := List.length_map .. |>.symm
  rw [this]
  exact ev_lenL (ev_var hs) (SqL.of h)
theorem t_or_of {t u : TT} {s : L2.St} {H : Hp} {Q : Bool → Hp → Prop} (h : t s H fun c H1 => if c = true then Q true H1 else u s H1 Q) : tOr t u s H Q := h
theorem t_and_of {t u : TT} {s : L2.St} {H : Hp} {Q : Bool → Hp → Prop} (h : t s H fun c H1 => if c = true then u s H1 Q else Q false H1) : tAnd t u s H Q := h
/-- len(machine.answers(hand)) == len(programs[hand]): whether it rests -/
theorem Fine.said {ps : List (List Deed)} {r : Rule} {m : M} (f : Fine ps r m) (j : Nat) : (m.rests j = true) = ((m.hd j).said.length = (ps.getD j []).length) := by
  have h1 := (f.hand j).said
  have h2 : m.prog j = ps.getD j [] := by
    unfold M.prog
    rw [f.progs]
  apply propext
  unfold M.rests
  rw [beq_iff_eq, h1, h2]
theorem t_lens {Z : Cs} {s : L2.St} {H : Hp} {A : MA} {m : M} {j n1 n2 n3 : Nat} {lp : Addr} {ps : List (List Deed)} {r : Rule} {Q : VK} (f : Fine ps r m) (T : MachAt Z H A m) (hj : j < ps.length) (hp : PgAt H lp ps) (e1 : s[n1]? = some (some (.ref A.p))) (e2 : s[n2]? = some (some (.int j))) (e3 : s[n3]? = some (some (.ref lp)))
    (q : ∀ H', Same H H' → Q (.bl (m.rests j)) H') : tOp rEq (tCB (rLen1 Z.K) (tCons (tMeth Z.M "answers" (sp_M_answers Z) [] E0 (tVar n1) (tCons (tVar n2) tNil)) tNil)) (tCB (rLen1 Z.K) (tCons (tOp (rIxL Z.K) (tVar n3) (tVar n2)) tNil)) s H Q := by
  obtain ⟨a, ha⟩ := T.hand_of (i := j) (by rw [f.hn]; exact hj)
  refine t_op_of (t_cb_of (t_cons_of (s_meth (ev_var e1) T.obj (mf_no _ _ _ (by simp)) (ea_cons (ev_var e2) ea_nil) ⟨A, m, j, a, rfl, T, ha, fun l hl => ⟨l, _, rfl, .inl (SqL.of upd_same), ?_⟩⟩)))
  have k1 : Same H (upd H l (.lst ((m.hd j).said.map ansV))) := Same.new hl
  obtain ⟨us, h1, h2⟩ := hp
  have hg : ps[j]? = some (ps.getD j []) := by
    rw [List.getD_eq_getElem?_getD, List.getElem?_eq_getElem hj]
    rfl
  obtain ⟨u, hu, q', us', rfl, h3, h4⟩ := h2.get j hg
  refine (ev_lenL (ev_ixL (ev_var e3) (ev_var e2) (SqL.of (k1 _ _ h1)) (atI_nat hu)) (SqL.of (k1 _ _ h3))) _ ⟨rfl, ?_⟩
  have e : decide (V.int ((((m.hd j).said.map ansV).length : Nat) : Int) = V.int ((us'.length : Nat) : Int)) = m.rests j := by
    rw [List.length_map, h4.length]
    have := f.said j
    cases er : m.rests j with
    | true =>
      rw [er] at this
      have t : (m.hd j).said.length = (ps.getD j []).length := this ▸ rfl
      rw [t]
      exact decide_eq_true rfl
    | false =>
      rw [er] at this
      refine decide_eq_false fun z => ?_
      have z2 : (m.hd j).said.length = (ps.getD j []).length := by
        have := V.int.inj z
        omega
      rw [← this] at z2
      cases z2
  rw [e]
  exact q _ k1
end SS

set_option Elab.async false
set_option linter.all false
set_option maxRecDepth 100000
set_option maxHeartbeats 4000000
namespace SS
open PySem L2
local macro_rules | `(tactic| walk_at "q") => `(tactic| ((try dsimp only); refine s_seq ?_))

/-! ### the law's own machine: dicts -/
structure DHA where
  d : Addr
  deeds : Addr
  said : Addr
structure DA where
  s : Addr
  values : Addr
  links : Addr
  free : Addr
  ends : Addr
  handsL : Addr
  rule : Addr
  hs : List DHA
abbrev ks (x : Str) : L2.Key := Sum.inr x
def dhf (a : DHA) (sv : V) (x : Hd) : List (L2.Key × V) :=
  [(ks "deeds", .ref a.deeds), (ks "at", .int x.at_), (ks "cell", .int x.cell), (ks "seen", sv), (ks "follow", optV x.follow), (ks "mark", .int x.mark), (ks "looked", .bl x.looked), (ks "said", .ref a.said)]
def df (A : DA) (m : M) : List (L2.Key × V) :=
  [(ks "values", .ref A.values), (ks "links", .ref A.links), (ks "top", .int m.top), (ks "count", .int m.count), (ks "free", .ref A.free), (ks "ends", .ref A.ends), (ks "stale", .bl m.strayed), (ks "rule", .ref A.rule), (ks "hands", .ref A.handsL)]
section
variable (a : DHA) (sv v : V) (x : Hd) (A : DA) (m : M)
theorem dhf_deeds : valV (dhf a sv x) (ks "deeds") = some (.ref a.deeds) := by kernel_rfl
theorem dhf_at : valV (dhf a sv x) (ks "at") = some (.int x.at_) := by kernel_rfl
theorem dhf_cell : valV (dhf a sv x) (ks "cell") = some (.int x.cell) := by kernel_rfl
theorem dhf_seen : valV (dhf a sv x) (ks "seen") = some (sv) := by kernel_rfl
theorem dhf_follow : valV (dhf a sv x) (ks "follow") = some (optV x.follow) := by kernel_rfl
theorem dhf_mark : valV (dhf a sv x) (ks "mark") = some (.int x.mark) := by kernel_rfl
theorem dhf_looked : valV (dhf a sv x) (ks "looked") = some (.bl x.looked) := by kernel_rfl
theorem dhf_said : valV (dhf a sv x) (ks "said") = some (.ref a.said) := by kernel_rfl
theorem df_values : valV (df A m) (ks "values") = some (.ref A.values) := by kernel_rfl
theorem df_links : valV (df A m) (ks "links") = some (.ref A.links) := by kernel_rfl
theorem df_top : valV (df A m) (ks "top") = some (.int m.top) := by kernel_rfl
theorem df_count : valV (df A m) (ks "count") = some (.int m.count) := by kernel_rfl
theorem df_free : valV (df A m) (ks "free") = some (.ref A.free) := by kernel_rfl
theorem df_ends : valV (df A m) (ks "ends") = some (.ref A.ends) := by kernel_rfl
theorem df_stale : valV (df A m) (ks "stale") = some (.bl m.strayed) := by kernel_rfl
theorem df_rule : valV (df A m) (ks "rule") = some (.ref A.rule) := by kernel_rfl
theorem df_hands : valV (df A m) (ks "hands") = some (.ref A.handsL) := by kernel_rfl
theorem dhp_at (n : Nat) : putK (dhf a sv x) (ks "at") (.int n) = dhf a sv { x with at_ := n } := by kernel_rfl
theorem dhp_cell (n : Nat) : putK (dhf a sv x) (ks "cell") (.int n) = dhf a sv { x with cell := n } := by kernel_rfl
theorem dhp_follow (n : Option Nat) : putK (dhf a sv x) (ks "follow") (optV n) = dhf a sv { x with follow := n } := by kernel_rfl
theorem dhp_mark (n : Nat) : putK (dhf a sv x) (ks "mark") (.int n) = dhf a sv { x with mark := n } := by kernel_rfl
theorem dhp_looked (n : Bool) : putK (dhf a sv x) (ks "looked") (.bl n) = dhf a sv { x with looked := n } := by kernel_rfl
theorem dhp_seen (o : Option (Nat × Nat)) : putK (dhf a sv x) (ks "seen") v = dhf a v { x with seen := o } := by kernel_rfl
theorem dp_top (n : Nat) : putK (df A m) (ks "top") (.int n) = df A { m with top := n } := by kernel_rfl
theorem dp_count (n : Nat) : putK (df A m) (ks "count") (.int n) = df A { m with count := n } := by kernel_rfl
theorem dp_stale (n : Bool) : putK (df A m) (ks "stale") (.bl n) = df A { m with strayed := n } := by kernel_rfl
end

inductive DRole where
  | s | values | links | free | handsL | ends
  | hand (i : Nat) | said (i : Nat)
  deriving DecidableEq
def DA.at (A : DA) : DRole → Option Addr
  | .s => some A.s
  | .values => some A.values
  | .links => some A.links
  | .free => some A.free
  | .handsL => some A.handsL
  | .ends => some A.ends
  | .hand i => (A.hs[i]?).map (·.d)
  | .said i => (A.hs[i]?).map (·.said)
def DA.owns (A : DA) (a : Addr) : Prop := ∃ r, A.at r = some a
def DA.reads (A : DA) (a : Addr) : Prop := ∃ (i : Nat) (b : DHA), A.hs[i]? = some b ∧ a = b.deeds
def DCont (H : Hp) (A : DA) (m : M) : DRole → HO → Prop
  | .s, o => o = .dK (df A m)
  | .values, o => o = .lst (m.worths.map V.int)
  | .links, o => o = .lst (m.links.map natV)
  | .free, o => o = .lst (m.freed.map natV)
  | .handsL, o => o = .lst (A.hs.map fun a => V.ref a.d)
  | .ends, o => ∃ vs, o = .lst vs ∧ All2 (PairAt H) vs m.ends
  | .hand i, o => ∃ a sv, A.hs[i]? = some a ∧ o = .dK (dhf a sv (m.hd i)) ∧ SeenAt H sv (m.hd i).seen
  | .said i, o => o = .lst ((m.hd i).said.map ansV)
structure DMachAt (H : Hp) (A : DA) (m : M) : Prop where
  at_ : ∀ r a, A.at r = some a → ∃ o, H a = some o ∧ DCont H A m r o
  rule : RuleAt H A.rule m.rule
  hs : A.hs.length = m.hands.length
  ps : m.progs.length = m.hands.length
  sep : ∀ r r' a, A.at r = some a → A.at r' = some a → r = r'
  deeds : ∀ (i : Nat) (a : DHA), A.hs[i]? = some a → ¬ A.owns a.deeds ∧ ∃ us, H a.deeds = some (.lst us) ∧ All2 (DeedAt H) us (m.prog i)
section
variable {H H' : Hp} {A : DA} {m m' : M}
theorem DCont.mono (t : Tups H H') {r : DRole} {o : HO} (h : DCont H A m r o) : DCont H' A m r o := by
  cases r with
  | ends => obtain ⟨vs, e, h⟩ := h; exact ⟨vs, e, h.mono fun _ _ => PairAt.mono t⟩
  | hand i => obtain ⟨a, sv, h1, h2, h3⟩ := h; exact ⟨a, sv, h1, h2, h3.mono t⟩
  | _ => exact h
theorem DCont.nostay {r : DRole} {u : HO} (h : DCont H A m r u) : ¬ stay u := by
  cases r with
  | ends => obtain ⟨vs, rfl, h⟩ := h; exact fun z => z
  | hand i => obtain ⟨a, sv, h1, rfl, h3⟩ := h; exact fun z => z
  | _ => (have e : u = _ := h); subst e; exact fun z => z
theorem DMachAt.nostay (T : DMachAt H A m) {a : Addr} (h : A.owns a) (u : HO) (e : H a = some u) : ¬ stay u := by
  obtain ⟨r, hr⟩ := h
  obtain ⟨o, ho, hc⟩ := T.at_ r a hr
  rw [ho] at e
  cases e
  exact hc.nostay
/-- all that the machine owns and reads stands -/
theorem DMachAt.chg {F : Addr → Prop} (T : DMachAt H A m) (c : Chg F H H') (d : ∀ a, A.owns a → ¬ F a) (d2 : ∀ a, A.reads a → ¬ F a) : DMachAt H' A m where
  at_ := fun r a ha => by
    obtain ⟨o, ho, hc⟩ := T.at_ r a ha
    exact ⟨o, c.keep a o ho (d a ⟨r, ha⟩), hc.mono c.tup⟩
  rule := T.rule.mono c.tup
  hs := T.hs
  ps := T.ps
  sep := T.sep
  deeds := fun i a ha => by
    obtain ⟨n, us, h1, h2⟩ := T.deeds i a ha
    exact ⟨n, us, c.keep _ _ h1 (d2 _ ⟨i, a, ha, rfl⟩), h2.mono fun _ _ => DeedAt.mono c.tup⟩
theorem DMachAt.same (T : DMachAt H A m) (c : Same H H') : DMachAt H' A m := T.chg (F := fun _ => False) (Chg.same c) (fun _ _ z => z) fun _ _ z => z
theorem DMachAt.new (T : DMachAt H A m) {p : Addr} {o : HO} (h : H p = none) : DMachAt (upd H p o) A m := T.same (Same.new h)
/-- one part is changed -/
theorem DMachAt.put (T : DMachAt H A m) {r : DRole} {a : Addr} {o : HO} (ha : A.at r = some a) (hc : ∀ H', Tups H H' → DCont H' A m' r o) (oth : ∀ r' u, r' ≠ r → DCont H A m r' u → DCont H A m' r' u)
    (hr : m'.rule = m.rule) (hh : m'.hands.length = m.hands.length) (hp : m'.progs = m.progs) : DMachAt (upd H a o) A m' ∧ Chg A.owns H (upd H a o) := by
  have c : Chg A.owns H (upd H a o) := Chg.put ⟨r, ha⟩ (T.nostay ⟨r, ha⟩)
  refine ⟨⟨fun r' b hb => ?_, by rw [hr]; exact T.rule.mono c.tup, by rw [hh]; exact T.hs, by rw [hh, hp]; exact T.ps, T.sep, fun i b hb => ?_⟩, c⟩
  · by_cases e : r' = r
    · subst e
      rw [ha] at hb
      cases hb
      exact ⟨o, upd_same, hc _ c.tup⟩
    · obtain ⟨u, hu, hcu⟩ := T.at_ r' b hb
      have nb : b ≠ a := fun z => e (T.sep r' r b hb (by rw [z]; exact ha))
      exact ⟨u, by rw [upd_ne nb]; exact hu, (oth r' u e hcu).mono c.tup⟩
  · obtain ⟨n, us, h1, h2⟩ := T.deeds i b hb
    have nb : b.deeds ≠ a := fun z => n ⟨r, by rw [z]; exact ha⟩
    refine ⟨n, us, by rw [upd_ne nb]; exact h1, ?_⟩
    have : m'.prog i = m.prog i := by unfold M.prog; rw [hp]
    rw [this]
    exact h2.mono fun _ _ => DeedAt.mono c.tup

/-! ### reading the parts -/
theorem DMachAt.obj (T : DMachAt H A m) : H A.s = some (.dK (df A m)) := by
  obtain ⟨o, ho, rfl⟩ := T.at_ .s A.s rfl
  exact ho
theorem DMachAt.valuesL (T : DMachAt H A m) : H A.values = some (.lst (m.worths.map V.int)) := by
  obtain ⟨o, ho, rfl⟩ := T.at_ .values _ rfl
  exact ho
theorem DMachAt.linksL (T : DMachAt H A m) : H A.links = some (.lst (m.links.map natV)) := by
  obtain ⟨o, ho, rfl⟩ := T.at_ .links _ rfl
  exact ho
theorem DMachAt.freeL (T : DMachAt H A m) : H A.free = some (.lst (m.freed.map natV)) := by
  obtain ⟨o, ho, rfl⟩ := T.at_ .free _ rfl
  exact ho
theorem DMachAt.handsLL (T : DMachAt H A m) : H A.handsL = some (.lst (A.hs.map fun a => V.ref a.d)) := by
  obtain ⟨o, ho, rfl⟩ := T.at_ .handsL _ rfl
  exact ho
theorem DMachAt.endsL (T : DMachAt H A m) : ∃ vs, H A.ends = some (.lst vs) ∧ All2 (PairAt H) vs m.ends := by
  obtain ⟨o, ho, vs, rfl, h⟩ := T.at_ .ends _ rfl
  exact ⟨vs, ho, h⟩
theorem DMachAt.handO (T : DMachAt H A m) {i : Nat} {a : DHA} (h : A.hs[i]? = some a) : ∃ sv, H a.d = some (.dK (dhf a sv (m.hd i))) ∧ SeenAt H sv (m.hd i).seen := by
  obtain ⟨o, ho, b, sv, hb, rfl, hs⟩ := T.at_ (.hand i) a.d (by simp [DA.at, h])
  rw [h] at hb
  cases hb
  exact ⟨sv, ho, hs⟩
theorem DMachAt.saidL (T : DMachAt H A m) {i : Nat} {a : DHA} (h : A.hs[i]? = some a) : H a.said = some (.lst ((m.hd i).said.map ansV)) := by
  obtain ⟨o, ho, rfl⟩ := T.at_ (.said i) a.said (by simp [DA.at, h])
  exact ho
theorem DMachAt.hand_of (T : DMachAt H A m) {i : Nat} (h : i < m.hands.length) : ∃ a, A.hs[i]? = some a := ⟨A.hs[i]'(by rw [T.hs]; exact h), List.getElem?_eq_getElem _⟩
theorem dhandV {i : Nat} {a : DHA} (h : A.hs[i]? = some a) : atI (A.hs.map fun a => V.ref a.d) (i : Int) = some (.ref a.d) := atI_nat (by rw [List.getElem?_map, h] <;> rfl)
theorem DMachAt.len (T : DMachAt H A m) {i : Nat} {a : DHA} (h : A.hs[i]? = some a) : i < m.hands.length := by
  rw [← T.hs]
  exact (List.getElem?_eq_some_iff.mp h).1
theorem DMachAt.deed (T : DMachAt H A m) {h : Nat} {a : DHA} {d : Deed} {i : Nat} (ha : A.hs[h]? = some a) (hd : (m.prog h)[i]? = some d) :
    ∃ us q, H a.deeds = some (.lst us) ∧ atI us (i : Int) = some (.ref q) ∧ H q = some (.tup (deedVs d)) := by
  obtain ⟨_, us, P, hu⟩ := T.deeds h a ha
  obtain ⟨v, hv, q, rfl, hq⟩ := hu.get i hd
  exact ⟨us, q, P, atI_nat hv, hq⟩

/-! ### one part is changed -/
theorem DMachAt.setS (T : DMachAt H A m) (t c : Nat) (b : Bool) : DMachAt (upd H A.s (.dK (df A { m with top := t, count := c, strayed := b }))) A { m with top := t, count := c, strayed := b } ∧ Chg A.owns H (upd H A.s (.dK (df A { m with top := t, count := c, strayed := b }))) :=
  T.put (r := .s) rfl (fun _ _ => rfl) (fun r' u ne h => by cases r' <;> first | exact absurd rfl ne | exact h) rfl rfl rfl
theorem df_stay (w : List Int) (l f : List Nat) (e : List (Nat × Nat)) : df A { m with worths := w, links := l, freed := f, ends := e } = df A m := rfl
theorem DMachAt.setValues (T : DMachAt H A m) (w : List Int) : DMachAt (upd H A.values (.lst (w.map V.int))) A { m with worths := w } ∧ Chg A.owns H (upd H A.values (.lst (w.map V.int))) :=
  T.put (r := .values) rfl (fun _ _ => rfl) (fun r' u ne h => by cases r' <;> first | exact absurd rfl ne | exact h) rfl rfl rfl
theorem DMachAt.setLinks (T : DMachAt H A m) (w : List Nat) : DMachAt (upd H A.links (.lst (w.map natV))) A { m with links := w } ∧ Chg A.owns H (upd H A.links (.lst (w.map natV))) :=
  T.put (r := .links) rfl (fun _ _ => rfl) (fun r' u ne h => by cases r' <;> first | exact absurd rfl ne | exact h) rfl rfl rfl
theorem DMachAt.setFree (T : DMachAt H A m) (w : List Nat) : DMachAt (upd H A.free (.lst (w.map natV))) A { m with freed := w } ∧ Chg A.owns H (upd H A.free (.lst (w.map natV))) :=
  T.put (r := .free) rfl (fun _ _ => rfl) (fun r' u ne h => by cases r' <;> first | exact absurd rfl ne | exact h) rfl rfl rfl
theorem DMachAt.addEnd (T : DMachAt H A m) {vs : List V} {v : V} {p : Nat × Nat} (hv : All2 (PairAt H) vs m.ends) (hp : PairAt H v p) :
    DMachAt (upd H A.ends (.lst (vs ++ [v]))) A { m with ends := m.ends ++ [p] } ∧ Chg A.owns H (upd H A.ends (.lst (vs ++ [v]))) :=
  T.put (r := .ends) rfl (fun _ t => ⟨_, rfl, (hv.mono fun _ _ => PairAt.mono t).snoc (hp.mono t)⟩) (fun r' u ne h => by cases r' <;> first | exact absurd rfl ne | exact h) rfl rfl rfl
theorem DMachAt.setHand (T : DMachAt H A m) {i : Nat} {a : DHA} {sv : V} {x : Hd} (h : A.hs[i]? = some a) (hs : SeenAt H sv x.seen) (he : x.said = (m.hd i).said) :
    DMachAt (upd H a.d (.dK (dhf a sv x))) A (m.setH i x) ∧ Chg A.owns H (upd H a.d (.dK (dhf a sv x))) := by
  have hl := T.len h
  refine T.put (r := .hand i) (by simp [DA.at, h]) (fun _ t => ⟨a, sv, h, by rw [M.setH_hd hl], by rw [M.setH_hd hl]; exact hs.mono t⟩) (fun r' u ne hc => ?_) rfl M.setH_len rfl
  cases r' with
  | hand j =>
    have e : j ≠ i := fun e => ne (by rw [e])
    show ∃ a sv, _
    rw [M.setH_ne hl e]
    exact hc
  | said j =>
    show u = _
    by_cases e : j = i
    · subst e
      rw [M.setH_hd hl, he]
      exact hc
    · rw [M.setH_ne hl e]
      exact hc
  | _ => exact hc
theorem DMachAt.setSaid (T : DMachAt H A m) {i : Nat} {a : DHA} (h : A.hs[i]? = some a) (w : List Ans) :
    DMachAt (upd H a.said (.lst (w.map ansV))) A (m.setH i { m.hd i with said := w }) ∧ Chg A.owns H (upd H a.said (.lst (w.map ansV))) := by
  have hl := T.len h
  refine T.put (r := .said i) (by simp [DA.at, h]) (fun _ t => by show _ = _; rw [M.setH_hd hl]) (fun r' u ne hc => ?_) rfl M.setH_len rfl
  cases r' with
  | hand j =>
    by_cases e : j = i
    · subst e
      obtain ⟨a', sv, h1, h2, h3⟩ := hc
      exact ⟨a', sv, h1, by rw [M.setH_hd hl]; exact h2, by rw [M.setH_hd hl]; exact h3⟩
    · show ∃ a sv, _
      rw [M.setH_ne hl e]
      exact hc
  | said j =>
    have e : j ≠ i := fun e => ne (by rw [e])
    show u = _
    rw [M.setH_ne hl e]
    exact hc
  | _ => exact hc
theorem DMachAt.hO (T : DMachAt H A (m.setH i x)) {a : DHA} (h : A.hs[i]? = some a) : ∃ sv, H a.d = some (.dK (dhf a sv x)) ∧ SeenAt H sv x.seen := by
  have hl := T.len h
  rw [M.setH_len] at hl
  have := T.handO h
  rw [M.setH_hd hl] at this
  exact this
end

/-! ### evaluating -/
abbrev HandD (H : Hp) (a : DHA) (sv : V) (x : Hd) : Prop := H a.d = some (.dK (dhf a sv x))
section
variable {K : PySem.W.Frag} {H : Hp} {A : DA} {m : M} {s : L2.St} {ta tb te : TE} {a : DHA} {sv : V} {x : Hd} {i : Nat} {v : V} {D : Ends}
theorem ev_dg {p : Addr} {kvs : List (L2.Key × V)} {k : Str} (e : Ev ta s H (.ref p)) (h : H p = some (.dK kvs)) (hv : valV kvs (ks k) = some v) : Ev (tDGet ta (tC (.str k))) s H v :=
  fun Q q => e _ ⟨p, v, rfl, by rw [← hv]; exact DGet.k (k := Sum.inr k) h, q⟩
theorem s_dput {p : Addr} {kvs : List (L2.Key × V)} {k : Str} (hv : Ev te s H v) (e : Ev ta s H (.ref p)) (h : H p = some (.dK kvs)) (hl : kvs.length < 1000) (q : D.nx s (upd H p (.dK (putK kvs (ks k) v)))) : sDPut ta (tC (.str k)) te D s H :=
  hv _ (e _ ⟨p, _, rfl, DPut.k (k := Sum.inr k) h (Nat.lt_of_lt_of_le hl (by decide)), q⟩)
theorem s_dput_of {ty : TE} (h : te s H fun v H1 => ta s H1 fun x H2 => ty s H2 fun y H3 => ∃ a H4, x = .ref a ∧ DPut H3 a y v H4 ∧ D.nx s H4) : sDPut ta ty te D s H := h
theorem dm_values (T : DMachAt H A m) (e : Ev ta s H (.ref A.s)) : Ev (tDGet ta (tC (.str "values"))) s H (.ref A.values) := ev_dg e T.obj (df_values _ _)
theorem dm_links (T : DMachAt H A m) (e : Ev ta s H (.ref A.s)) : Ev (tDGet ta (tC (.str "links"))) s H (.ref A.links) := ev_dg e T.obj (df_links _ _)
theorem dm_top (T : DMachAt H A m) (e : Ev ta s H (.ref A.s)) : Ev (tDGet ta (tC (.str "top"))) s H (.int m.top) := ev_dg e T.obj (df_top _ _)
theorem dm_count (T : DMachAt H A m) (e : Ev ta s H (.ref A.s)) : Ev (tDGet ta (tC (.str "count"))) s H (.int m.count) := ev_dg e T.obj (df_count _ _)
theorem dm_free (T : DMachAt H A m) (e : Ev ta s H (.ref A.s)) : Ev (tDGet ta (tC (.str "free"))) s H (.ref A.free) := ev_dg e T.obj (df_free _ _)
theorem dm_ends (T : DMachAt H A m) (e : Ev ta s H (.ref A.s)) : Ev (tDGet ta (tC (.str "ends"))) s H (.ref A.ends) := ev_dg e T.obj (df_ends _ _)
theorem dm_stale (T : DMachAt H A m) (e : Ev ta s H (.ref A.s)) : Ev (tDGet ta (tC (.str "stale"))) s H (.bl m.strayed) := ev_dg e T.obj (df_stale _ _)
theorem dm_rule (T : DMachAt H A m) (e : Ev ta s H (.ref A.s)) : Ev (tDGet ta (tC (.str "rule"))) s H (.ref A.rule) := ev_dg e T.obj (df_rule _ _)
theorem dm_hands (T : DMachAt H A m) (e : Ev ta s H (.ref A.s)) : Ev (tDGet ta (tC (.str "hands"))) s H (.ref A.handsL) := ev_dg e T.obj (df_hands _ _)
theorem dh_deeds (O : HandD H a sv x) (e : Ev ta s H (.ref a.d)) : Ev (tDGet ta (tC (.str "deeds"))) s H (.ref a.deeds) := ev_dg e O (dhf_deeds _ _ _)
theorem dh_at (O : HandD H a sv x) (e : Ev ta s H (.ref a.d)) : Ev (tDGet ta (tC (.str "at"))) s H (.int x.at_) := ev_dg e O (dhf_at _ _ _)
theorem dh_cell (O : HandD H a sv x) (e : Ev ta s H (.ref a.d)) : Ev (tDGet ta (tC (.str "cell"))) s H (.int x.cell) := ev_dg e O (dhf_cell _ _ _)
theorem dh_seen (O : HandD H a sv x) (e : Ev ta s H (.ref a.d)) : Ev (tDGet ta (tC (.str "seen"))) s H (sv) := ev_dg e O (dhf_seen _ _ _)
theorem dh_follow (O : HandD H a sv x) (e : Ev ta s H (.ref a.d)) : Ev (tDGet ta (tC (.str "follow"))) s H (optV x.follow) := ev_dg e O (dhf_follow _ _ _)
theorem dh_mark (O : HandD H a sv x) (e : Ev ta s H (.ref a.d)) : Ev (tDGet ta (tC (.str "mark"))) s H (.int x.mark) := ev_dg e O (dhf_mark _ _ _)
theorem dh_looked (O : HandD H a sv x) (e : Ev ta s H (.ref a.d)) : Ev (tDGet ta (tC (.str "looked"))) s H (.bl x.looked) := ev_dg e O (dhf_looked _ _ _)
theorem dh_said (O : HandD H a sv x) (e : Ev ta s H (.ref a.d)) : Ev (tDGet ta (tC (.str "said"))) s H (.ref a.said) := ev_dg e O (dhf_said _ _ _)
theorem dm_hand (T : DMachAt H A m) (h : A.hs[i]? = some a) (e : Ev ta s H (.ref A.s)) (ei : Ev tb s H (.int i)) : Ev (tOp (rIxL K) (tDGet ta (tC (.str "hands"))) tb) s H (.ref a.d) :=
  ev_ixL (dm_hands T e) ei (SqL.of T.handsLL) (dhandV h)
theorem dhf_len : (dhf a sv x).length < 1000 := by show 8 < 1000; decide
theorem df_len : (df A m).length < 1000 := by show 9 < 1000; decide
/-- any store into a hand's dict but deeds, said -/
theorem dsh_any {f : Str} (T : DMachAt H A (m.setH i x)) (h : A.hs[i]? = some a) (O : HandD H a sv x) {x' : Hd} {sv' : V} (e : putK (dhf a sv x) (ks f) v = dhf a sv' x')
    (hs : SeenAt H sv' x'.seen) (hd : x'.said = x.said) (hv : Ev te s H v) (ea : Ev ta s H (.ref a.d))
    (c : ∀ H', DMachAt H' A (m.setH i x') → Chg A.owns H H' → HandD H' a sv' x' → D.nx s H') : sDPut ta (tC (.str f)) te D s H := by
  refine s_dput hv ea O dhf_len ?_
  rw [e]
  have hl : i < m.hands.length := by
    have := T.len h
    rw [M.setH_len] at this
    exact this
  obtain ⟨T', C⟩ := T.setHand (sv := sv') (x := x') h hs (by rw [M.setH_hd hl]; exact hd)
  rw [M.setH_setH] at T'
  exact c _ T' C upd_same
theorem dsh_at {n : Nat} (T : DMachAt H A (m.setH i x)) (h : A.hs[i]? = some a) (O : HandD H a sv x) (hs : SeenAt H sv x.seen) (hv : Ev te s H (.int n)) (ea : Ev ta s H (.ref a.d))
    (c : ∀ H', DMachAt H' A (m.setH i { x with at_ := n }) → Chg A.owns H H' → HandD H' a sv { x with at_ := n } → D.nx s H') : sDPut ta (tC (.str "at")) te D s H := dsh_any T h O (dhp_at a sv x n) hs rfl hv ea c
theorem dsh_cell {n : Nat} (T : DMachAt H A (m.setH i x)) (h : A.hs[i]? = some a) (O : HandD H a sv x) (hs : SeenAt H sv x.seen) (hv : Ev te s H (.int n)) (ea : Ev ta s H (.ref a.d))
    (c : ∀ H', DMachAt H' A (m.setH i { x with cell := n }) → Chg A.owns H H' → HandD H' a sv { x with cell := n } → D.nx s H') : sDPut ta (tC (.str "cell")) te D s H := dsh_any T h O (dhp_cell a sv x n) hs rfl hv ea c
theorem dsh_follow {n : Option Nat} (T : DMachAt H A (m.setH i x)) (h : A.hs[i]? = some a) (O : HandD H a sv x) (hs : SeenAt H sv x.seen) (hv : Ev te s H (optV n)) (ea : Ev ta s H (.ref a.d))
    (c : ∀ H', DMachAt H' A (m.setH i { x with follow := n }) → Chg A.owns H H' → HandD H' a sv { x with follow := n } → D.nx s H') : sDPut ta (tC (.str "follow")) te D s H := dsh_any T h O (dhp_follow a sv x n) hs rfl hv ea c
theorem dsh_mark {n : Nat} (T : DMachAt H A (m.setH i x)) (h : A.hs[i]? = some a) (O : HandD H a sv x) (hs : SeenAt H sv x.seen) (hv : Ev te s H (.int n)) (ea : Ev ta s H (.ref a.d))
    (c : ∀ H', DMachAt H' A (m.setH i { x with mark := n }) → Chg A.owns H H' → HandD H' a sv { x with mark := n } → D.nx s H') : sDPut ta (tC (.str "mark")) te D s H := dsh_any T h O (dhp_mark a sv x n) hs rfl hv ea c
theorem dsh_looked {n : Bool} (T : DMachAt H A (m.setH i x)) (h : A.hs[i]? = some a) (O : HandD H a sv x) (hs : SeenAt H sv x.seen) (hv : Ev te s H (.bl n)) (ea : Ev ta s H (.ref a.d))
    (c : ∀ H', DMachAt H' A (m.setH i { x with looked := n }) → Chg A.owns H H' → HandD H' a sv { x with looked := n } → D.nx s H') : sDPut ta (tC (.str "looked")) te D s H := dsh_any T h O (dhp_looked a sv x n) hs rfl hv ea c
theorem dsh_seen {o : Option (Nat × Nat)} (T : DMachAt H A (m.setH i x)) (h : A.hs[i]? = some a) (O : HandD H a sv x) (hs : SeenAt H v o) (hv : Ev te s H v) (ea : Ev ta s H (.ref a.d))
    (c : ∀ H', DMachAt H' A (m.setH i { x with seen := o }) → Chg A.owns H H' → HandD H' a v { x with seen := o } → D.nx s H') : sDPut ta (tC (.str "seen")) te D s H := dsh_any T h O (dhp_seen a sv v x o) hs rfl hv ea c
/-- one["said"].append(answer) -/
theorem dsh_said {w : Ans} (T : DMachAt H A (m.setH i x)) (h : A.hs[i]? = some a) (O : HandD H a sv x) (hz : x.said.length < 1000) (hv : Ev te s H (ansV w)) (ea : Ev ta s H (.ref a.d))
    (c : ∀ H', DMachAt H' A (m.setH i { x with said := x.said ++ [w] }) → Chg A.owns H H' → HandD H' a sv { x with said := x.said ++ [w] } → D.nx s H') :
    tDrop (tBM K "list" rAppend (tDGet ta (tC (.str "said"))) (tCons te tNil)) D s H := by
  have hl : i < m.hands.length := by
    have := T.len h
    rw [M.setH_len] at this
    exact this
  have L := T.saidL h
  rw [M.setH_hd hl] at L
  refine s_app (dh_said O ea) L hv (by rw [List.length_map]; exact Nat.lt_of_lt_of_le hz (by decide)) ?_
  obtain ⟨T', C⟩ := T.setSaid h (x.said ++ [w])
  rw [M.setH_hd hl, M.setH_setH] at T'
  rw [List.map_append] at T' C
  refine c _ T' C ?_
  have hne : a.d ≠ a.said := ne_of O L (by intro z; cases z)
  show upd H a.said _ a.d = _
  rw [upd_ne hne]
  exact O
theorem dsm_any {f : Str} (T : DMachAt H A m) {t c : Nat} {b : Bool} (e : putK (df A m) (ks f) v = df A { m with top := t, count := c, strayed := b }) (hv : Ev te s H v) (ea : Ev ta s H (.ref A.s))
    (q : ∀ H', DMachAt H' A { m with top := t, count := c, strayed := b } → Chg A.owns H H' → (∀ (j : Nat) (b : DHA) (sv : V) (x : Hd), A.hs[j]? = some b → HandD H b sv x → HandD H' b sv x) → D.nx s H') : sDPut ta (tC (.str f)) te D s H := by
  refine s_dput hv ea T.obj df_len ?_
  rw [e]
  obtain ⟨T', C⟩ := T.setS t c b
  refine q _ T' C fun i a sv x h O => ?_
  have hne : a.d ≠ A.s := fun z => by
    have := T.sep (.hand i) .s a.d (by simp [DA.at, h]) (by rw [z]; rfl)
    cases this
  show upd _ _ _ _ = _
  rw [upd_ne hne]
  exact O
theorem dsm_top {t : Nat} (T : DMachAt H A m) (hv : Ev te s H (.int t)) (ea : Ev ta s H (.ref A.s))
    (q : ∀ H', DMachAt H' A { m with top := t } → Chg A.owns H H' → (∀ (j : Nat) (b : DHA) (sv : V) (x : Hd), A.hs[j]? = some b → HandD H b sv x → HandD H' b sv x) → D.nx s H') : sDPut ta (tC (.str "top")) te D s H :=
  dsm_any (t := t) (c := m.count) (b := m.strayed) T (dp_top A m t) hv ea q
theorem dsm_count {t : Nat} (T : DMachAt H A m) (hv : Ev te s H (.int t)) (ea : Ev ta s H (.ref A.s))
    (q : ∀ H', DMachAt H' A { m with count := t } → Chg A.owns H H' → (∀ (j : Nat) (b : DHA) (sv : V) (x : Hd), A.hs[j]? = some b → HandD H b sv x → HandD H' b sv x) → D.nx s H') : sDPut ta (tC (.str "count")) te D s H :=
  dsm_any (t := m.top) (c := t) (b := m.strayed) T (dp_count A m t) hv ea q
theorem dsm_stale {t : Bool} (T : DMachAt H A m) (hv : Ev te s H (.bl t)) (ea : Ev ta s H (.ref A.s))
    (q : ∀ H', DMachAt H' A { m with strayed := t } → Chg A.owns H H' → (∀ (j : Nat) (b : DHA) (sv : V) (x : Hd), A.hs[j]? = some b → HandD H b sv x → HandD H' b sv x) → D.nx s H') : sDPut ta (tC (.str "stale")) te D s H :=
  dsm_any (t := m.top) (c := m.count) (b := t) T (dp_stale A m t) hv ea q
end
end SS

set_option Elab.async false
set_option linter.all false
set_option maxRecDepth 100000
set_option maxHeartbeats 4000000
namespace SS
open PySem L2
local macro_rules | `(tactic| walk_at "q") => `(tactic| ((try dsimp only); refine s_seq ?_))

/-! ### promises -/
def sp_L_again (Z : Cs) : Sp := fun vs H Q _ => ∃ (A : DA) (m : M) (h : Nat) (a : DHA), vs = [.ref a.d] ∧ DMachAt H A m ∧ A.hs[h]? = some a ∧ ∀ H', DMachAt H' A (m.setH h (m.hd h).forgot) → Chg A.owns H H' → Q .non H'
def sp_L_ends (Z : Cs) : Sp := fun vs H Q _ => ∃ (A : DA) (m : M) (h : Nat) (a : DHA) (w : Ans), vs = [.ref a.d, ansV w] ∧ DMachAt H A m ∧ A.hs[h]? = some a ∧ (m.hd h).said.length < 1000 ∧
  ∀ H' v, DMachAt H' A (m.endedH h w) → Chg A.owns H H' → TellAt H' v (.ends w) → Q v H'
def sp_L_cell (Z : Cs) : Sp := fun vs H Q _ => ∃ (A : DA) (m : M) (h : Nat) (a : DHA) (v : Int), vs = [.ref A.s, .ref a.d, .int v] ∧ DMachAt H A m ∧ A.hs[h]? = some a ∧ m.hands.length ≤ 1000 ∧ m.worths.length < 1000 ∧ m.links.length < 1000 ∧ m.freed.length ≤ 1000 ∧ (∀ c ∈ m.freed, 1 ≤ c ∧ c ≤ m.worths.length) ∧
  ∀ H', DMachAt H' A ((m.taken v).2.setH h { m.hd h with cell := (m.taken v).1 }) → Chg A.owns H H' → Q (.int (m.taken v).1) H'
def sp_L_swaps (Z : Cs) : Sp := fun vs H Q _ => ∃ (A : DA) (m : M) (h c : Nat) (a : DHA), vs = [.ref A.s, .int h, .int c] ∧ DMachAt H A m ∧ A.hs[h]? = some a ∧ m.ends.length < 1000 ∧ okCount m ∧
  ∀ H', DMachAt H' A (m.exch h c).2 → Chg A.owns H H' → Q (.bl (m.exch h c).1) H'
def sp_L_pop (Z : Cs) : Sp := fun vs H Q _ => ∃ (A : DA) (m : M) (h t k : Nat) (a : DHA), vs = [.ref A.s, .int h] ∧ DMachAt H A m ∧ A.hs[h]? = some a ∧ (m.hd h).seen = some (t, k) ∧ (1 ≤ t ∧ t ≤ m.links.length) ∧ (m.hd h).cell ≤ m.worths.length ∧
  (m.hd h).said.length < 1000 ∧ m.ends.length < 1000 ∧ m.freed.length < 1000 ∧ okCount m ∧ ∀ H' v, DMachAt H' A (m.pop h t).2 → Chg A.owns H H' → TellAt H' v (m.pop h t).1 → Q v H'
def sp_L_turn (Z : Cs) : Sp := fun vs H Q _ => ∃ (A : DA) (m : M) (h : Nat), vs = [.ref A.s, .int h] ∧ DMachAt H A m ∧ Wf m ∧ h < m.hands.length ∧
  ∀ H' v, DMachAt H' A (m.turn h).2 → Chg A.owns H H' → TellAt H' v (m.turn h).1 → Q v H'
def sp_L_pile (Z : Cs) : Sp := fun vs H Q _ => ∃ (A : DA) (m : M), vs = [.ref A.s] ∧ DMachAt H A m ∧ PileOk m ∧ ∀ l H', H l = none → Same H H' → H' l = some (.lst (m.pile.map natV)) → Q (.ref l) H'
def sp_L_begun (Z : Cs) : Sp := fun vs H Q _ => ∃ (lv lp lr : Addr) (values : List Int) (ps : List (List Deed)) (r : Rule), vs = [.ref lv, .ref lp, .ref lr] ∧ SqL Z.K H lv (values.map V.int) ∧ PgAt H lp ps ∧ RuleAt H lr r ∧ values.length ≤ 6 ∧ ps.length ≤ 3 ∧
  ∀ (A : DA) H', (∀ a, A.owns a → H a = none) → (∀ a, A.reads a → ∃ us, H lp = some (.lst us) ∧ .ref a ∈ us) → DMachAt H' A (M.begin_ values ps r) → Same H H' → Q (.ref A.s) H'

/-! ### readings (printed) -/
/-- _law_begun: 0 _law_values_here, 1 _law_programs_here, 2 _law_rule_here, 3 _law_s, 4 _law_deeds, 5 _law_hand -/
def t_L_begun (Z : Cs) : TS :=
  tSeq (tAsg (tDisp (((tC (.str "values")), (tCB (rListOf Z.K) (tCons (tVar 0) tNil))) :: ((tC (.str "links")), (tLstRg (tRg1 (tCB (rLen1 Z.K) (tCons (tVar 0) tNil))))) :: ((tC (.str "top")), (tCB (rLen1 Z.K) (tCons (tVar 0) tNil))) :: ((tC (.str "count")), (tC (.int 0))) :: [])) (gName 3))
    (tSeq (sDPut (tVar 3) (tC (.str "free")) (tLst tNil))
    (tSeq (sDPut (tVar 3) (tC (.str "ends")) (tLst tNil))
    (tSeq (sDPut (tVar 3) (tC (.str "stale")) (tC (.bl false)))
    (tSeq (sDPut (tVar 3) (tC (.str "rule")) (tVar 2))
    (tSeq (sDPut (tVar 3) (tC (.str "hands")) (tLst tNil))
    (tSeq (tFor (iList Z.K (tVar 1)) (gName 4) (tSeq (tAsg (tDisp (((tC (.str "deeds")), (tVar 4)) :: ((tC (.str "at")), (tC (.int 0))) :: ((tC (.str "cell")), (tC (.int 0))) :: ((tC (.str "seen")), (tC .non)) :: ((tC (.str "follow")), (tC .non)) :: ((tC (.str "mark")), (tC (.int 0))) :: ((tC (.str "looked")), (tC (.bl false))) :: [])) (gName 5))
    (tSeq (sDPut (tVar 5) (tC (.str "said")) (tLst tNil))
    ((tDrop (tBM Z.K "list" rAppend (tDGet (tVar 3) (tC (.str "hands"))) (tCons (tVar 5) tNil)))))))
    ((tRet (tVar 3)))))))))
/-- _law_again: 0 _law_h -/
def t_L_again (Z : Cs) : TS :=
  tSeq (sDPut (tVar 0) (tC (.str "seen")) (tC .non))
    (tSeq (sDPut (tVar 0) (tC (.str "follow")) (tC .non))
    ((sDPut (tVar 0) (tC (.str "looked")) (tC (.bl false)))))
/-- _law_ends: 0 _law_h, 1 _law_told -/
def t_L_ends (Z : Cs) : TS :=
  tSeq (tDrop (tBM Z.K "list" rAppend (tDGet (tVar 0) (tC (.str "said"))) (tCons (tVar 1) tNil)))
    (tSeq (sDPut (tVar 0) (tC (.str "at")) (tOp rAddI (tDGet (tVar 0) (tC (.str "at"))) (tC (.int 1))))
    (tSeq (sDPut (tVar 0) (tC (.str "cell")) (tC (.int 0)))
    (tSeq (sDPut (tVar 0) (tC (.str "mark")) (tC (.int 0)))
    (tSeq (tDrop (tCall (sp_L_again Z) [] E0 (tCons (tVar 0) tNil)))
    ((tRet (tTup (tCons (tC (.str "ends")) (tCons (tVar 1) tNil)))))))))
/-- _law_cell: 0 _law_s, 1 _law_h, 2 _law_value, 3 _law_marked, 4 _law_one, 5 _law_some, 6 _law_cell_here -/
def t_L_cell (Z : Cs) : TS :=
  tSeq (tAsg (tLc (iList Z.K (tDGet (tVar 0) (tC (.str "hands")))) (gName 4) tYes (tDGet (tVar 4) (tC (.str "mark"))) [4]) (gName 3))
    (tSeq (tAsg (tLc (iList Z.K (tDGet (tVar 0) (tC (.str "free")))) (gName 6) (tTest (tOp (rIn Z.K true) (tVar 6) (tVar 3))) (tVar 6) [6]) (gName 5))
    (tSeq (tIfS ((tOr (tTest (tOp rEq (tOp (rIxT Z.K) (tDGet (tVar 0) (tC (.str "rule"))) (tC (.int 0))) (tC (.str "keeps")))) (tTest (tOp (rEqD Z.K) (tVar 5) (tLst tNil))))) (tSeq (tDrop (tBM Z.K "list" rAppend (tDGet (tVar 0) (tC (.str "values"))) (tCons (tVar 2) tNil)))
    (tSeq (tDrop (tBM Z.K "list" rAppend (tDGet (tVar 0) (tC (.str "links"))) (tCons (tC (.int 0)) tNil)))
    ((sDPut (tVar 1) (tC (.str "cell")) (tCB (rLen1 Z.K) (tCons (tDGet (tVar 0) (tC (.str "values"))) tNil)))))) (tSeq (sDPut (tVar 1) (tC (.str "cell")) (tOp (rIxL Z.K) (tVar 5) (tC (.int 0))))
    (tSeq (tDrop (tBM Z.K "list" rRemI (tDGet (tVar 0) (tC (.str "free"))) (tCons (tOp (rIxL Z.K) (tVar 5) (tC (.int 0))) tNil)))
    ((tAsg (tVar 2) (gSub (tDGet (tVar 0) (tC (.str "values"))) (tOp rSubI (tOp (rIxL Z.K) (tVar 5) (tC (.int 0))) (tC (.int 1))) rSetL))))))
    ((tRet (tDGet (tVar 1) (tC (.str "cell")))))))
/-- _law_swaps: 0 _law_s, 1 _law_hand, 2 _law_cell_here, 3 _law_h -/
def t_L_swaps (Z : Cs) : TS :=
  tSeq (tAsg (tOp (rIxL Z.K) (tDGet (tVar 0) (tC (.str "hands"))) (tVar 1)) (gName 3))
    (tSeq (tIfS (tTest (tOp (rNeD Z.K) (tDGet (tVar 3) (tC (.str "seen"))) (tTup (tCons (tDGet (tVar 0) (tC (.str "top"))) (tCons (tDGet (tVar 0) (tC (.str "count"))) tNil))))) (tSeq (tDrop (tCall (sp_L_again Z) [] E0 (tCons (tVar 3) tNil)))
    ((tRet (tC (.bl false))))) (tNext))
    (tSeq (sDPut (tVar 0) (tC (.str "top")) (tVar 2))
    (tSeq (tIfS (tTest (tOp rEq (tOp (rIxT Z.K) (tDGet (tVar 0) (tC (.str "rule"))) (tC (.int 0))) (tC (.str "counts")))) ((sDPut (tVar 0) (tC (.str "count")) (tOp rModI (tOp rAddI (tDGet (tVar 0) (tC (.str "count"))) (tC (.int 1))) (tOp (rIxT Z.K) (tDGet (tVar 0) (tC (.str "rule"))) (tC (.int 1)))))) (tNext))
    (tSeq (tDrop (tBM Z.K "list" rAppend (tDGet (tVar 0) (tC (.str "ends"))) (tCons (tTup (tCons (tVar 1) (tCons (tDGet (tVar 3) (tC (.str "at"))) tNil))) tNil)))
    ((tRet (tC (.bl true))))))))
/-- _law_pop: 0 _law_s, 1 _law_hand, 2 _law_h, 3 _law_cell_here, 4 _law_follow -/
def t_L_pop (Z : Cs) : TS :=
  tSeq (tAsg (tOp (rIxL Z.K) (tDGet (tVar 0) (tC (.str "hands"))) (tVar 1)) (gName 2))
    (tSeq (tIfS (tTest (tOp rGtI (tDGet (tVar 2) (tC (.str "cell"))) (tC (.int 0)))) (tSeq (tDrop (tBM Z.K "list" rAppend (tDGet (tVar 0) (tC (.str "free"))) (tCons (tDGet (tVar 2) (tC (.str "cell"))) tNil)))
    ((tRet (tCall (sp_L_ends Z) [] E0 (tCons (tVar 2) (tCons (tOp (rIxL Z.K) (tDGet (tVar 0) (tC (.str "values"))) (tOp rSubI (tDGet (tVar 2) (tC (.str "cell"))) (tC (.int 1)))) tNil)))))) (tNext))
    (tSeq (tAsg (tOp (rIxT Z.K) (tDGet (tVar 2) (tC (.str "seen"))) (tC (.int 0))) (gName 3))
    (tSeq (tIfS ((tAnd (tTest (tOp rEq (tOp (rIxT Z.K) (tDGet (tVar 0) (tC (.str "rule"))) (tC (.int 0))) (tC (.str "marks")))) (tAnd (tTest (tOp (rIn Z.K false) (tVar 1) (tOp (rIxT Z.K) (tDGet (tVar 0) (tC (.str "rule"))) (tC (.int 1))))) (tNot (tB (tDGet (tVar 2) (tC (.str "looked")))))))) (tSeq (tIfS (tTest (tOp rNe (tDGet (tVar 2) (tC (.str "mark"))) (tVar 3))) (tSeq (sDPut (tVar 2) (tC (.str "mark")) (tVar 3))
    ((tRet (tTup (tCons (tC (.str "marks")) (tCons (tVar 3) tNil)))))) (tNext))
    (tSeq (sDPut (tVar 2) (tC (.str "looked")) (tOp rEq (tDGet (tVar 0) (tC (.str "top"))) (tVar 3)))
    (tSeq (tIfS (tTest (tOp rNe (tDGet (tVar 0) (tC (.str "top"))) (tVar 3))) ((tDrop (tCall (sp_L_again Z) [] E0 (tCons (tVar 2) tNil)))) (tNext))
    ((tRet (tTup (tCons (tC (.str "looks")) (tCons (tOp rEq (tDGet (tVar 0) (tC (.str "top"))) (tVar 3)) tNil)))))))) (tNext))
    (tSeq (tIfS (tTest (tOp rIsN (tDGet (tVar 2) (tC (.str "follow"))) (tC .non))) (tSeq (sDPut (tVar 2) (tC (.str "follow")) (tOp (rIxL Z.K) (tDGet (tVar 0) (tC (.str "links"))) (tOp rSubI (tVar 3) (tC (.int 1)))))
    ((tRet (tTup (tCons (tC (.str "follows")) (tCons (tDGet (tVar 2) (tC (.str "follow"))) tNil)))))) (tNext))
    (tSeq (tAsg (tDGet (tVar 2) (tC (.str "follow"))) (gName 4))
    (tSeq (tIfS (tNot (tB (tCall (sp_L_swaps Z) [] E0 (tCons (tVar 0) (tCons (tVar 1) (tCons (tVar 4) tNil)))))) ((tRet (tTup (tCons (tC (.str "misses")) tNil)))) (tNext))
    (tSeq (sDPut (tVar 0) (tC (.str "stale")) (tOrV (tDGet (tVar 0) (tC (.str "stale"))) (tOp (rNeD Z.K) (tOp (rIxL Z.K) (tDGet (tVar 0) (tC (.str "links"))) (tOp rSubI (tVar 3) (tC (.int 1)))) (tVar 4))))
    (tSeq (sDPut (tVar 2) (tC (.str "cell")) (tVar 3))
    ((tRet (tTup (tCons (tC (.str "exchanges")) (tCons (tVar 4) tNil)))))))))))))
/-- _law_turn: 0 _law_s, 1 _law_hand, 2 _law_h, 3 _law_deed_here -/
def t_L_turn (Z : Cs) : TS :=
  tSeq (tAsg (tOp (rIxL Z.K) (tDGet (tVar 0) (tC (.str "hands"))) (tVar 1)) (gName 2))
    (tSeq (tIfS (tTest (tOp rEq (tDGet (tVar 2) (tC (.str "at"))) (tCB (rLen1 Z.K) (tCons (tDGet (tVar 2) (tC (.str "deeds"))) tNil)))) ((tRet (tTup (tCons (tC (.str "rests")) tNil)))) (tNext))
    (tSeq (tAsg (tOp (rIxL Z.K) (tDGet (tVar 2) (tC (.str "deeds"))) (tDGet (tVar 2) (tC (.str "at")))) (gName 3))
    (tSeq (tIfS ((tAnd (tTest (tOp rEq (tOp (rIxT Z.K) (tVar 3) (tC (.int 0))) (tC (.str "push")))) (tTest (tOp rEq (tDGet (tVar 2) (tC (.str "cell"))) (tC (.int 0)))))) ((tRet (tTup (tCons (tC (.str "takes")) (tCons (tCall (sp_L_cell Z) [] E0 (tCons (tVar 0) (tCons (tVar 2) (tCons (tOp (rIxT Z.K) (tVar 3) (tC (.int 1))) tNil)))) tNil))))) (tNext))
    (tSeq (tIfS (tTest (tOp rIsN (tDGet (tVar 2) (tC (.str "seen"))) (tC .non))) (tSeq (tIfS ((tAnd (tTest (tOp rEq (tOp (rIxT Z.K) (tVar 3) (tC (.int 0))) (tC (.str "pop")))) (tTest (tOp rEq (tDGet (tVar 0) (tC (.str "top"))) (tC (.int 0)))))) (tSeq (tDrop (tBM Z.K "list" rAppend (tDGet (tVar 0) (tC (.str "ends"))) (tCons (tTup (tCons (tVar 1) (tCons (tDGet (tVar 2) (tC (.str "at"))) tNil))) tNil)))
    ((tRet (tCall (sp_L_ends Z) [] E0 (tCons (tVar 2) (tCons (tC .non) tNil)))))) (tNext))
    (tSeq (sDPut (tVar 2) (tC (.str "seen")) (tTup (tCons (tDGet (tVar 0) (tC (.str "top"))) (tCons (tDGet (tVar 0) (tC (.str "count"))) tNil))))
    ((tRet (tTup (tCons (tC (.str "reads")) (tCons (tDGet (tVar 0) (tC (.str "top"))) tNil))))))) (tNext))
    (tSeq (tIfS (tTest (tOp rEq (tOp (rIxT Z.K) (tVar 3) (tC (.int 0))) (tC (.str "pop")))) ((tRet (tCall (sp_L_pop Z) [] E0 (tCons (tVar 0) (tCons (tVar 1) tNil))))) (tNext))
    (tSeq (tIfS (tTest (tOp rIsN (tDGet (tVar 2) (tC (.str "follow"))) (tC .non))) (tSeq (sDPut (tVar 2) (tC (.str "follow")) (tOp (rIxT Z.K) (tDGet (tVar 2) (tC (.str "seen"))) (tC (.int 0))))
    (tSeq (tAsg (tDGet (tVar 2) (tC (.str "follow"))) (gSub (tDGet (tVar 0) (tC (.str "links"))) (tOp rSubI (tDGet (tVar 2) (tC (.str "cell"))) (tC (.int 1))) rSetL))
    ((tRet (tTup (tCons (tC (.str "links")) (tCons (tDGet (tVar 2) (tC (.str "follow"))) tNil))))))) (tNext))
    (tSeq (tIfS (tNot (tB (tCall (sp_L_swaps Z) [] E0 (tCons (tVar 0) (tCons (tVar 1) (tCons (tDGet (tVar 2) (tC (.str "cell"))) tNil)))))) ((tRet (tTup (tCons (tC (.str "misses")) tNil)))) (tNext))
    ((tRet (tCall (sp_L_ends Z) [] E0 (tCons (tVar 2) (tCons (tC (.str "done")) tNil))))))))))))
/-- _law_pile: 0 _law_s, 1 _law_found, 2 _law_cell_here -/
def t_L_pile (Z : Cs) : TS :=
  tSeq (tAsg (tLst tNil) (gName 1))
    (tSeq (tAsg (tDGet (tVar 0) (tC (.str "top"))) (gName 2))
    (tSeq (tWhile ((tAnd (tTest (tOp rGtI (tVar 2) (tC (.int 0)))) (tTest (tOp (rIn Z.K true) (tVar 2) (tVar 1))))) (tSeq (tDrop (tBM Z.K "list" rAppend (tVar 1) (tCons (tVar 2) tNil)))
    ((tAsg (tOp (rIxL Z.K) (tDGet (tVar 0) (tC (.str "links"))) (tOp rSubI (tVar 2) (tC (.int 1)))) (gName 2)))))
    ((tRet (tVar 1)))))
end SS

set_option Elab.async false
set_option linter.all false
set_option maxRecDepth 100000
set_option maxHeartbeats 4000000
namespace SS
open PySem L2
local macro_rules | `(tactic| walk_at "q") => `(tactic| ((try dsimp only); refine s_seq ?_))

section
variable {A : DA} {m m' : M} {H H0 : Hp} {s : L2.St} {D : Ends} {ar : TA} {w : Tell}
/-- return (a word, ..) -/
theorem ds_tell (T : DMachAt H A m') (C : Chg A.owns H0 H) (h : EvA ar s H (tellVs w)) (q : ∀ H' v, DMachAt H' A m' → Chg A.owns H0 H' → TellAt H' v w → D.rt v H') : tRet (tTup ar) D s H :=
  e_tup h (by cases w <;> simp [tellVs]) fun p hp => q _ _ (T.new hp) (C.trans (Chg.same (Same.new hp))) ⟨p, rfl, upd_same⟩
end
theorem pure_L_again {Z : Cs} (vs : List V) (H : Hp) (Q : VK) (E : XK) (h : sp_L_again Z vs H Q E) : t_L_again Z { nx := fun _ H' => Q .non H', rt := Q } (start ["_law_h"] vs) H := by
  obtain ⟨A, m, h, a, rfl, T, ha, q⟩ := h
  obtain ⟨sv, O, S⟩ := T.handO ha
  unfold t_L_again
  rw [← M.setH_self (m := m) (h := h)] at T
  walk_at "q"
  refine dsh_seen (o := none) T ha O rfl ev_c (ev_var rfl) fun H1 T1 C1 O1 => ?_
  walk_at "q"
  refine dsh_follow (n := none) T1 ha O1 rfl ev_c (ev_var rfl) fun H2 T2 C2 O2 => ?_
  refine dsh_looked (n := false) T2 ha O2 rfl ev_c (ev_var rfl) fun H3 T3 C3 O3 => ?_
  exact q H3 T3 ((C1.trans C2).trans C3)
theorem pure_L_ends {Z : Cs} (vs : List V) (H : Hp) (Q : VK) (E : XK) (h : sp_L_ends Z vs H Q E) : t_L_ends Z { nx := fun _ H' => Q .non H', rt := Q } (start ["_law_h", "_law_told"] vs) H := by
  obtain ⟨A, m, h, a, w, rfl, T, ha, hz, q⟩ := h
  obtain ⟨sv, O, S⟩ := T.handO ha
  have hl := T.len ha
  unfold t_L_ends
  rw [← M.setH_self (m := m) (h := h)] at T
  walk_at "q"
  refine dsh_said (w := w) T ha O hz (ev_var rfl) (ev_var rfl) fun H1 T1 C1 O1 => ?_
  have S1 := S.mono C1.tup
  walk_at "q"
  refine dsh_at (n := (m.hd h).at_ + 1) T1 ha O1 S1 (ev_add (dh_at O1 (ev_var rfl)) ev_c) (ev_var rfl) fun H2 T2 C2 O2 => ?_
  have S2 := S1.mono C2.tup
  walk_at "q"
  refine dsh_cell (n := 0) T2 ha O2 S2 ev_c (ev_var rfl) fun H4 T4 C4 O4 => ?_
  have S4 := S2.mono C4.tup
  walk_at "q"
  refine dsh_mark (n := 0) T4 ha O4 S4 ev_c (ev_var rfl) fun H5 T5 C5 O5 => ?_
  walk_at "q"
  refine s_drop' (s_call (ea_cons (ev_var rfl) ea_nil) ⟨A, _, h, a, rfl, T5, ha, fun H3 T3 C3 => ?_⟩)
  rw [M.setH_hd hl, M.setH_setH] at T3
  dsimp only
  refine ds_tell (w := .ends w) T3 ((((C1.trans C2).trans C4).trans C5).trans C3) (ea_cons ev_c (ea_cons (ev_var rfl) ea_nil)) fun H' v T' C' W => ?_
  exact q H' v T' C' W
theorem first_at : ∀ {l : List Nat} {c : Nat}, c ∈ l → ∃ i : Nat, l[i]? = some c ∧ ∀ j : Nat, j < i → l[j]? ≠ some c
  | a :: l, c, h => by
    by_cases e : a = c
    · subst e
      exact ⟨0, rfl, fun j hj => by omega⟩
    · have h' : c ∈ l := by
        rcases List.mem_cons.mp h with z | z
        · exact absurd z.symm e
        · exact z
      obtain ⟨i, h1, h2⟩ := first_at h'
      refine ⟨i + 1, by simpa using h1, fun j hj => ?_⟩
      cases j with
      | zero => simpa using e
      | succ j => simpa using h2 j (by omega)
theorem t_or_val {t u : TT} {s : L2.St} {H : Hp} {b : Bool} {Q : Bool → Hp → Prop} (h1 : EvT t s H b) (h2 : b = true → Q true H) (h3 : b = false → u s H Q) : tOr t u s H Q := h1 _ (by
  cases b with
  | true => exact h2 rfl
  | false => exact h3 rfl)
theorem pure_L_cell {Z : Cs} (vs : List V) (H : Hp) (Q : VK) (E : XK) (h : sp_L_cell Z vs H Q E) : t_L_cell Z { nx := fun _ H' => Q .non H', rt := Q } (start ["_law_s", "_law_h", "_law_value", "_law_marked", "_law_one", "_law_some", "_law_cell_here"] vs) H := by
  obtain ⟨A, m, h, a, v, rfl, T, ha, hn, hw, hll, hf, hfr, q⟩ := h
  have hl := T.len ha
  unfold t_L_cell
  walk_at "q"
  refine s_asg_of (e_lcL (dm_hands T (ev_var rfl)) (SqL.of T.handsLL) (fun D i H' => Same H H' ∧ H' D = some (.lst (((m.hands.take i).map (·.mark)).map natV)))
    (fun D hD => ⟨Same.new hD, upd_same⟩) (fun D i H' _ _ p => SqL.of (T.same p.1).handsLL) (fun D i x H' hx hD p => ?_) (fun D H1 hD p => ?_))
  · obtain ⟨b, hb, rfl⟩ := map_get hx
    have T' := T.same p.1
    obtain ⟨sv, O, S⟩ := T'.handO hb
    have hi := T'.len hb
    have eq : m.hands[i]? = some (m.hd i) := by
      unfold M.hd
      rw [List.getD_eq_getElem?_getD, List.getElem?_eq_getElem hi]
      rfl
    refine ⟨rfl, et_yes _ (iteT (dh_mark O (ev_var rfl) _ ⟨_, p.2, ?_, same_newer p.1 hD, ?_⟩))⟩
    · rw [List.length_map, List.length_map, List.length_take]
      exact Nat.lt_of_le_of_lt (Nat.min_le_left _ _) (Nat.lt_of_lt_of_le (Nat.lt_of_lt_of_le hi hn) (by decide))
    · rw [upd_same, take_snoc eq, List.map_append, List.map_append]
      rfl
  obtain ⟨c1, hM⟩ := p
  rw [List.length_map, T.hs, List.take_length] at hM
  have T1 := T.same c1
  dsimp only [gName]
  walk_at "q"
  refine s_asg_of (e_lcL (dm_free T1 (ev_var rfl)) (SqL.of T1.freeL) (fun D2 i H' => Same H1 H' ∧ H' D2 = some (.lst (((m.freed.take i).filter fun c => !(m.hands.map (·.mark)).contains c).map natV)))
    (fun D2 hD => ⟨Same.new hD, upd_same⟩) (fun D2 i H' _ _ p => SqL.of (T1.same p.1).freeL) (fun D2 i x H' hx hD p => ?_) (fun D2 H2 hD2 p => ?_))
  · obtain ⟨c, hc, rfl⟩ := map_get hx
    refine ⟨rfl, ?_⟩
    refine et_test (ev_inL (ev_var rfl) (ev_var rfl) (SqL.of (p.1 _ _ hM)) rfl (flat_nat _)) _ ?_
    rw [if_pos rfl, inV_nat]
    cases e : (m.hands.map (·.mark)).contains c with
    | true =>
      refine iteF ⟨p.1, ?_⟩
      rw [p.2, take_snoc hc, List.filter_append]
      simp only [List.filter_cons, List.filter_nil, e]
      simp
    | false =>
      refine iteT (ev_var rfl _ ⟨_, p.2, ?_, same_newer p.1 hD, ?_⟩)
      · rw [List.length_map]
        refine Nat.lt_of_le_of_lt (List.length_filter_le _ _) ?_
        rw [List.length_take]
        exact Nat.lt_of_le_of_lt (Nat.min_le_right _ _) (Nat.lt_of_le_of_lt hf (by decide))
      · rw [upd_same, take_snoc hc, List.filter_append, List.map_append]
        simp only [List.filter_cons, List.filter_nil, e]
        simp
  obtain ⟨c2, hS⟩ := p
  rw [List.length_map, List.take_length] at hS
  have T2 := T1.same c2
  have C2 : Chg A.owns H H2 := Chg.same (Same.trans c1 c2)
  dsimp only [gName]
  have efind : ∀ c, c ∈ m.freed → (m.hands.map (·.mark)).contains c = m.marked.contains c := fun c hc => by
    have c0 := (hfr c hc).1
    unfold M.marked
    rw [Bool.eq_iff_iff]
    simp only [List.contains_iff_mem, List.mem_filter, bne_iff_ne]
    exact ⟨fun z => ⟨z, by omega⟩, fun z => z.1⟩
  have efil : (m.freed.filter fun c => !(m.hands.map (·.mark)).contains c) = m.freed.filter fun c => !m.marked.contains c := List.filter_congr fun c hc => by rw [efind c hc]
  rw [efil] at hS
  have epick : m.rule ≠ .keeps → pick m.rule m.marked m.freed = (m.freed.filter fun c => !m.marked.contains c).head? := fun z => by
    unfold pick
    rw [if_neg z, List.head?_filter]
  generalize hL : (m.freed.filter fun c => !m.marked.contains c) = L at hS epick
  obtain ⟨xs, hR, hat⟩ := ruleW H2 A.rule m.rule T2.rule
  have cont : pick m.rule m.marked m.freed = none → ∀ H3, DMachAt H3 A m → Chg A.owns H H3 → ∀ st : L2.St, st[0]? = some (some (.ref A.s)) → st[1]? = some (some (.ref a.d)) → st[2]? = some (some (.int v)) → ∀ D' : Ends, D'.rt = Q →
      tSeq (tDrop (tBM Z.K "list" rAppend (tDGet (tVar 0) (tC (.str "values"))) (tCons (tVar 2) tNil))) (tSeq (tDrop (tBM Z.K "list" rAppend (tDGet (tVar 0) (tC (.str "links"))) (tCons (tC (.int 0)) tNil)))
        ((sDPut (tVar 1) (tC (.str "cell")) (tCB (rLen1 Z.K) (tCons (tDGet (tVar 0) (tC (.str "values"))) tNil))))) { D' with nx := tRet (tDGet (tVar 1) (tC (.str "cell"))) D' } st H3 := by
    intro hp H3 T3 C3 st h0 h1 h2 D' hD'
    have et : m.taken v = (m.worths.length + 1, { m with worths := m.worths ++ [v], links := m.links ++ [0] }) := taken_none hp
    rw [et] at q
    walk_at "q"
    refine s_app (dm_values T3 (ev_var h0)) T3.valuesL (ev_var h2) (by rw [List.length_map]; exact Nat.lt_of_lt_of_le hw (by decide)) ?_
    have e1 : List.map V.int m.worths ++ [V.int v] = (m.worths ++ [v]).map V.int := by rw [List.map_append]; rfl
    rw [e1]
    obtain ⟨T4, C4⟩ := T3.setValues (m.worths ++ [v])
    walk_at "q"
    refine s_app (dm_links T4 (ev_var h0)) T4.linksL ev_c (by rw [List.length_map]; exact Nat.lt_of_lt_of_le hll (by decide)) ?_
    have e2 : List.map natV { m with worths := m.worths ++ [v] }.links ++ [V.int 0] = (m.links ++ [0]).map natV := by rw [List.map_append]; rfl
    rw [e2]
    obtain ⟨T5, C5⟩ := T4.setLinks (m.links ++ [0])
    have hself : ({ m with worths := m.worths ++ [v], links := m.links ++ [0] } : M).setH h (m.hd h) = { m with worths := m.worths ++ [v], links := m.links ++ [0] } := M.setH_self (m := { m with worths := m.worths ++ [v], links := m.links ++ [0] }) (h := h)
    have T5' := T5
    rw [← hself] at T5'
    obtain ⟨sv, O, S⟩ := T5'.hO ha
    refine dsh_cell (n := m.worths.length + 1) T5' ha O S (ev_is (ev_lenL (dm_values T5 (ev_var h0)) (SqL.of T5.valuesL)) (by simp)) (ev_var h1) fun H6 T6 C6 O6 => ?_
    refine s_ret (dh_cell O6 (ev_var h1)) ?_
    rw [hD']
    exact q _ T6 (((C3.trans C4).trans C5).trans C6)
  walk_at "q"
  by_cases ek : m.rule = .keeps
  · refine s_if_of (t_or_val (b := true) (et_is (et_test (ev_eq (ev_ixT (dm_rule T2 (ev_var rfl)) ev_c (SqT.of hR) hat) ev_c rfl)) (by rw [ek]; decide +kernel)) (fun _ => iteT ?_) (fun e => by cases e))
    exact cont (by unfold pick; rw [if_pos ek]) H2 T2 C2 _ rfl rfl rfl { nx := fun _ H' => Q .non H', rt := Q } rfl
  · refine s_if_of (t_or_val (b := false) (et_is (et_test (ev_eq (ev_ixT (dm_rule T2 (ev_var rfl)) ev_c (SqT.of hR) hat) ev_c rfl)) (by
      cases er : m.rule with
      | counts n => exact (by decide +kernel : (decide (V.str "counts" = V.str "keeps")) = false)
      | marks hs => exact (by decide +kernel : (decide (V.str "marks" = V.str "keeps")) = false)
      | keeps => exact absurd er ek)) (fun e => by cases e) (fun _ => ?_))
    have ep := epick ek
    refine t_test_of (t_op_of (ev_var rfl _ (e_lst ea_nil (by show 0 ≤ 1000; decide) fun p3 hp3 => ?_)))
    have k3 : Same H2 (upd H2 p3 (.lst [])) := Same.new hp3
    have okL : okD 1 (natsD L) := okD_ints _
    cases L with
    | nil =>
      refine eq_same (d := natsD []) (n := 1) (natsDp (k3 _ _ hS)) (natsDp (l := []) upd_same) okL (by decide) ⟨_, rfl, iteT ?_⟩
      exact cont ep _ (T2.same k3) (C2.trans (Chg.same k3)) _ rfl rfl rfl { nx := fun _ H' => Q .non H', rt := Q } rfl
    | cons c L =>
      refine ⟨natsD (c :: L), natsD [], natsDp (k3 _ _ hS), natsDp (l := []) upd_same, okL.shaped (by decide), (okD_ints []).shaped (by decide), ⟨_, rfl, ?_⟩⟩
      have ef : PyData.eqv (natsD (c :: L)) (natsD []) = false := rfl
      rw [ef]
      refine iteF ?_
      have et : m.taken v = (c, { m with freed := m.freed.erase c, worths := m.worths.set (c - 1) v }) := taken_some ep
      rw [et] at q
      have cm : c ∈ m.freed := pick_mem ep
      obtain ⟨cc1, cc2⟩ := hfr c cm
      have T3 := T2.same k3
      have C3 := C2.trans (Chg.same k3)
      have hS3 := k3 _ _ hS
      generalize upd H2 p3 (.lst []) = H3 at T3 C3 hS3 ⊢
      rw [← M.setH_self (m := m) (h := h)] at T3
      obtain ⟨sv, O, S⟩ := T3.hO ha
      have nS : ∀ H', Chg A.owns H3 H' → H' D2 = some (.lst (List.map natV (c :: L))) := fun H' C => C.keep _ _ hS3 fun ho => by
        obtain ⟨r, hr⟩ := ho
        obtain ⟨o, ho, _⟩ := T1.at_ r D2 hr
        rw [hD2] at ho
        cases ho
      have e0 : ∀ (H' : Hp) (st : L2.St), Chg A.owns H3 H' → st[5]? = some (some (.ref D2)) → Ev (tOp (rIxL Z.K) (tVar 5) (tC (.int 0))) st H' (.int (c : Int)) := fun H' st C e => ev_ixL (ev_var e) ev_c (SqL.of (nS H' C)) (atI_nat (j := 0) rfl)
      walk_at "q"
      refine dsh_cell (n := c) T3 ha O S (e0 _ _ (Chg.refl _ _) rfl) (ev_var rfl) fun H4 T4 C4 O4 => ?_
      obtain ⟨i, hi, hfst⟩ := first_at cm
      have L4 := T4.freeL
      have L4' : H4 A.free = some (.lst ((m.freed.map Int.ofNat).map V.int)) := by rw [L4]; rw [← natV_int]; rfl
      walk_at "q"
      refine s_drop' (dm_free T4 (ev_var rfl) _ ⟨.inl ⟨rfl, _, SqL.of L4⟩, e0 _ _ C4 rfl _ ⟨A.free, _, c, i, rfl, rfl, L4', by rw [List.getElem?_map, hi] <;> rfl, fun j hj e => ?_, ?_⟩⟩)
      · obtain ⟨d, hd, e2⟩ : ∃ d, m.freed[j]? = some d ∧ (c : Int) = (d : Int) := by
          rw [List.getElem?_map] at e
          cases e3 : m.freed[j]? with
          | none => rw [e3] at e; cases e
          | some d => rw [e3] at e; exact ⟨d, rfl, (Option.some.inj e).symm⟩
        exact hfst j hj (by rw [hd, Int.ofNat_inj.mp e2])
      have ee : ((m.freed.map Int.ofNat).eraseIdx i).map V.int = (m.freed.erase c).map natV := by
        rw [← erase_at hi hfst, natV_int, eraseIdx_map']
      rw [ee]
      obtain ⟨T5, C5⟩ := T4.setFree (m.freed.erase c)
      refine s_setL (j := c - 1) (ev_var rfl) (dm_values T5 (ev_var rfl)) (ev_sub (e0 _ _ (C4.trans C5) rfl) ev_c) T5.valuesL (by rw [List.length_map]; exact ixN_pred cc1 cc2) ?_
      have ew : (List.map V.int { m.setH h { m.hd h with cell := c } with freed := m.freed.erase c }.worths).set (c - 1) (.int v) = (m.worths.set (c - 1) v).map V.int := by
        rw [List.map_set]
        rfl
      obtain ⟨T6, C6⟩ := T5.setValues (m.worths.set (c - 1) v)
      dsimp only at ew ⊢
      rw [ew]
      obtain ⟨sv6, O6, S6⟩ := T6.handO ha
      have eh6 : ({ m.setH h { m.hd h with cell := c } with freed := m.freed.erase c, worths := m.worths.set (c - 1) v } : M).hd h = { m.hd h with cell := c } := M.setH_hd (m := m) hl
      rw [eh6] at O6
      exact s_ret (ev_is (dh_cell O6 (ev_var rfl)) rfl) (q _ T6 (((C3.trans C4).trans C5).trans C6))
end SS

set_option Elab.async false
set_option linter.all false
set_option maxRecDepth 100000
set_option maxHeartbeats 4000000
namespace SS
open PySem L2
local macro_rules | `(tactic| walk_at "q") => `(tactic| ((try dsimp only); refine s_seq ?_))

theorem seenD' {K : PySem.W.Frag} {H : Hp} {v : V} : ∀ {o : Option (Nat × Nat)}, SeenAt H v o → ∃ d, Dp K H v d ∧ SeqAt.shaped d = true ∧ ∀ t c : Nat, PyData.eqv d (.tuple [.int t, .int c]) = decide (o = some (t, c))
  | none, h => ⟨.none, by rw [show v = .non from h]; exact .non, rfl, fun t c => rfl⟩
  | some (a, b), ⟨q, e, h⟩ => ⟨.tuple [.int a, .int b], by rw [e]; exact .tup (SqT.of h) (.cons (.int _) (.cons (.int _) .nil)), rfl, fun t c => by
      have h1 : PyData.eqv (.tuple [.int a, .int b]) (.tuple [.int t, .int c]) = (((a : Int) == (t : Int)) && (((b : Int) == (c : Int)) && true)) := rfl
      rw [h1, Bool.and_true]
      by_cases e1 : a = t
      · by_cases e2 : b = c
        · subst e1 e2
          simp
        · have n1 : ((b : Int) == (c : Int)) = false := by simpa using fun z => e2 (Int.ofNat_inj.mp z)
          rw [n1, Bool.and_false]
          exact (decide_eq_false (fun z => e2 (by cases z; rfl))).symm
      · have n1 : ((a : Int) == (t : Int)) = false := by simpa using fun z => e1 (Int.ofNat_inj.mp z)
        rw [n1, Bool.false_and]
        exact (decide_eq_false (fun z => e1 (by cases z; rfl))).symm⟩
theorem ds_ends {K : PySem.W.Frag} {A : DA} {m : M} {H : Hp} {s : L2.St} {D : Ends} {h : Nat} {a : DHA} {te : TE} (T : DMachAt H A m) (ha : A.hs[h]? = some a) (hz : m.ends.length < 1000) (h0 : s[0]? = some (some (.ref A.s))) (h1 : s[1]? = some (some (.int h)))
    (ht : Ev te s H (.int (m.hd h).at_)) (q : ∀ H', DMachAt H' A { m with ends := m.ends ++ [(h, (m.hd h).at_)] } → Chg A.owns H H' → D.nx s H') :
    tDrop (tBM K "list" rAppend (tDGet (tVar 0) (tC (.str "ends"))) (tCons (tTup (tCons (tVar 1) (tCons te tNil))) tNil)) D s H := by
  obtain ⟨us, L, hu⟩ := T.endsL
  refine s_appX (dm_ends T (ev_var h0)) L ?_
  refine e_tup (ea_cons (ev_var h1) (ea_cons ht ea_nil)) (by show 2 ≤ 1000; decide) fun p hp => ?_
  have L' : upd H p (.tup [.int h, .int (m.hd h).at_]) A.ends = some (.lst us) := Same.new hp _ _ L
  refine ⟨us, L', by rw [hu.length]; exact Nat.lt_of_lt_of_le hz (by decide), ?_⟩
  have T4 := T.new (o := .tup [.int h, .int (m.hd h).at_]) hp
  obtain ⟨T5, C5⟩ := T4.addEnd (vs := us) (v := .ref p) (p := (h, (m.hd h).at_)) (hu.mono fun _ _ => PairAt.mono fun b xs e => Same.new hp _ _ e) ⟨p, rfl, upd_same⟩
  exact q _ T5 ((Chg.same (Same.new hp)).trans C5)
theorem pure_L_swaps {Z : Cs} (vs : List V) (H : Hp) (Q : VK) (E : XK) (h : sp_L_swaps Z vs H Q E) : t_L_swaps Z { nx := fun _ H' => Q .non H', rt := Q } (start ["_law_s", "_law_hand", "_law_cell_here", "_law_h"] vs) H := by
  obtain ⟨A, m, h, c, a, rfl, T, ha, hz, oc, q⟩ := h
  obtain ⟨sv, O, S⟩ := T.handO ha
  unfold t_L_swaps
  walk_at "q"
  refine s_asg (dm_hand T ha (ev_var rfl) (ev_var rfl)) ?_
  walk_at "q"
  refine s_if_of (t_test_of (t_op_of (dh_seen O (ev_var rfl) _ (e_tup (ea_cons (dm_top T (ev_var rfl)) (ea_cons (dm_count T (ev_var rfl)) ea_nil)) (by show 2 ≤ 1000; decide) fun p hp => ?_))))
  have k1 : Same H (upd H p (.tup [.int m.top, .int m.count])) := Same.new hp
  have T1 := T.same k1
  have C1 : Chg A.owns H (upd H p (.tup [.int m.top, .int m.count])) := Chg.same k1
  have tp : Tups H (upd H p (.tup [.int m.top, .int m.count])) := fun b xs e => k1 _ _ e
  obtain ⟨d, hd, sd, ed⟩ := seenD' (K := Z.K) (S.mono tp)
  refine ⟨d, .tuple [.int m.top, .int m.count], hd, .tup (SqT.of upd_same) (.cons (.int _) (.cons (.int _) .nil)), sd, rfl, ⟨_, rfl, ?_⟩⟩
  rw [ed]
  have O1 := k1 _ _ O
  generalize upd H p (.tup [.int m.top, .int m.count]) = H1 at T1 C1 O1 ⊢
  cases e : decide ((m.hd h).seen = some (m.top, m.count)) with
  | false =>
    have ex : m.exch h c = (false, m.setH h (m.hd h).forgot) := by unfold M.exch M.fits; rw [e]; rfl
    rw [ex] at q
    refine iteT ?_
    walk_at "q"
    refine s_drop' (s_call (ea_cons (ev_var rfl) ea_nil) ⟨A, _, h, a, rfl, T1, ha, fun H2 T2 C2 => ?_⟩)
    dsimp only
    exact s_ret ev_c (q H2 T2 (C1.trans C2))
  | true =>
    have ex : m.exch h c = (true, m.exchd h c) := by unfold M.exch M.fits; rw [e]; rfl
    rw [ex] at q
    refine iteF ?_
    dsimp only [tNext]
    walk_at "q"
    refine dsm_top (t := c) T1 (ev_var rfl) (ev_var rfl) fun H2 T2 C2 K2 => ?_
    have O2 := K2 h a _ _ ha O1
    have cnt : ∀ (D : Ends) (s : L2.St), s[0]? = some (some (.ref A.s)) → (∀ H3, DMachAt H3 A { m with top := c, count := m.turned } → Chg A.owns H H3 → HandD H3 a sv (m.hd h) → D.nx s H3) →
        tIfS (tTest (tOp rEq (tOp (rIxT Z.K) (tDGet (tVar 0) (tC (.str "rule"))) (tC (.int 0))) (tC (.str "counts")))) (sDPut (tVar 0) (tC (.str "count")) (tOp rModI (tOp rAddI (tDGet (tVar 0) (tC (.str "count"))) (tC (.int 1))) (tOp (rIxT Z.K) (tDGet (tVar 0) (tC (.str "rule"))) (tC (.int 1))))) tNext D s H2 := by
      intro D s h0 kk
      have R := T2.rule
      cases er : m.rule with
      | counts n =>
        have R : H2 A.rule = some (.tup [.str "counts", .int n]) := by
          have := R
          simp only [er, RuleAt] at this
          exact this
        refine s_ifT (et_is (et_test (ev_eq (ev_ixT (dm_rule T2 (ev_var h0)) ev_c (SqT.of R) (atI_nat (j := 0) rfl)) ev_c rfl)) rfl) ?_
        refine dsm_count (t := (m.count + 1) % n) T2 (ev_mod (ev_add (dm_count T2 (ev_var h0)) ev_c) (ev_ixT (dm_rule T2 (ev_var h0)) ev_c (SqT.of R) (atI_nat (j := 1) rfl)) (by have := oc n er; omega)) (ev_var h0) fun H3 T3 C3 K3 => ?_
        have et : m.turned = (m.count + 1) % n := by unfold M.turned; rw [er]
        rw [← et] at T3
        exact kk H3 T3 ((C1.trans C2).trans C3) (K3 h a _ _ ha O2)
      | marks hs =>
        have R : ∃ t, H2 A.rule = some (.tup [.str "marks", .ref t]) ∧ H2 t = some (.tup (hs.map natV)) := by
          have := R
          simp only [er, RuleAt] at this
          exact this
        obtain ⟨t, R, _⟩ := R
        refine s_ifF (et_is (et_test (ev_eq (ev_ixT (dm_rule T2 (ev_var h0)) ev_c (SqT.of R) (atI_nat (j := 0) rfl)) ev_c rfl)) (by decide +kernel)) ?_
        have et : m.turned = m.count := by unfold M.turned; rw [er]
        exact kk H2 (by rw [et]; exact T2) (C1.trans C2) O2
      | keeps =>
        have R : H2 A.rule = some (.tup [.str "keeps"]) := by
          have := R
          simp only [er, RuleAt] at this
          exact this
        refine s_ifF (et_is (et_test (ev_eq (ev_ixT (dm_rule T2 (ev_var h0)) ev_c (SqT.of R) (atI_nat (j := 0) rfl)) ev_c rfl)) (by decide +kernel)) ?_
        have et : m.turned = m.count := by unfold M.turned; rw [er]
        exact kk H2 (by rw [et]; exact T2) (C1.trans C2) O2
    walk_at "q"
    refine cnt _ _ rfl fun H3 T3 C3 O3 => ?_
    walk_at "q"
    refine ds_ends T3 ha hz rfl rfl (dh_at O3 (ev_var rfl)) fun H4 T4 C4 => ?_
    dsimp only
    exact s_ret ev_c (q _ T4 (C3.trans C4))
/-- s["rule"][0] == "marks" and hand in s["rule"][1] and not h["looked"] -/
theorem ev_dnamed {K : PySem.W.Frag} {A : DA} {m : M} {H : Hp} {h : Nat} {a : DHA} {sv : V} {x : Hd} {s : L2.St} {n : Nat} (T : DMachAt H A m) (O : HandD H a sv x) (h0 : s[0]? = some (some (.ref A.s))) (h1 : s[1]? = some (some (.int h))) (h2 : s[n]? = some (some (.ref a.d))) :
    EvT (tAnd (tTest (tOp rEq (tOp (rIxT K) (tDGet (tVar 0) (tC (.str "rule"))) (tC (.int 0))) (tC (.str "marks")))) (tAnd (tTest (tOp (rIn K false) (tVar 1) (tOp (rIxT K) (tDGet (tVar 0) (tC (.str "rule"))) (tC (.int 1))))) (tNot (tB (tDGet (tVar n) (tC (.str "looked")))))))
      s H (decide (m.rule.named h = true ∧ x.looked = false)) := by
  cases er : m.rule with
  | counts c =>
    have R : H A.rule = some (.tup [.str "counts", .int c]) := by
      have := T.rule
      rw [er] at this
      exact this
    refine et_is (et_and (b := true) (et_test (ev_eq (ev_ixT (dm_rule T (ev_var h0)) ev_c (SqT.of R) (atI_nat (j := 0) rfl)) ev_c rfl)) fun e => ?_) ?_
    · exact absurd e (by decide +kernel)
    · have n : decide (V.str "counts" = V.str "marks") = false := by decide +kernel
      rw [n]
      simp [Rule.named]
  | keeps =>
    have R : H A.rule = some (.tup [.str "keeps"]) := by
      have := T.rule
      rw [er] at this
      exact this
    refine et_is (et_and (b := true) (et_test (ev_eq (ev_ixT (dm_rule T (ev_var h0)) ev_c (SqT.of R) (atI_nat (j := 0) rfl)) ev_c rfl)) fun e => ?_) ?_
    · exact absurd e (by decide +kernel)
    · have n : decide (V.str "keeps" = V.str "marks") = false := by decide +kernel
      rw [n]
      simp [Rule.named]
  | marks hs =>
    have R : ∃ t, H A.rule = some (.tup [.str "marks", .ref t]) ∧ H t = some (.tup (hs.map natV)) := by
      have := T.rule
      rw [er] at this
      exact this
    obtain ⟨t, R, R2⟩ := R
    refine et_is (et_and (et_test (ev_eq (ev_ixT (dm_rule T (ev_var h0)) ev_c (SqT.of R) (atI_nat (j := 0) rfl)) ev_c rfl)) fun e =>
      et_and (et_test (ev_inT (ev_var h1) (ev_ixT (dm_rule T (ev_var h0)) ev_c (SqT.of R) (atI_nat (j := 1) rfl)) (SqT.of R2) rfl (flat_nat _))) fun _ => et_not (et_B (dh_looked O (ev_var h2)))) ?_
    have e1 : decide (V.str "marks" = V.str "marks") = true := decide_eq_true rfl
    rw [e1]
    have e2 : inV (V.int (h : Int)) (hs.map natV) = hs.contains h := inV_nat (c := h)
    rw [Bool.true_and, if_neg Bool.false_ne_true, e2]
    show (hs.contains h && !x.looked) = decide ((Rule.marks hs).named h = true ∧ x.looked = false)
    rw [Bool.decide_and, Bool.decide_eq_true]
    show (hs.contains h && !x.looked) = (hs.contains h && _)
    cases x.looked <;> simp
theorem pure_L_pop {Z : Cs} (vs : List V) (H : Hp) (Q : VK) (E : XK) (h : sp_L_pop Z vs H Q E) : t_L_pop Z { nx := fun _ H' => Q .non H', rt := Q } (start ["_law_s", "_law_hand", "_law_h", "_law_cell_here", "_law_follow"] vs) H := by
  obtain ⟨A, m, h, t, kk, a, rfl, T, ha, hseen, ⟨ht1, ht2⟩, hcw, hs, hz, hf, oc, q⟩ := h
  obtain ⟨sv, O, S⟩ := T.handO ha
  unfold t_L_pop
  walk_at "q"
  refine s_asg (dm_hand T ha (ev_var rfl) (ev_var rfl)) ?_
  walk_at "q"
  refine s_if (et_test (ev_gt (dh_cell O (ev_var rfl)) ev_c)) (fun e => ?_) (fun e => ?_)
  · have e0 := of_decide_eq_true e
    have e1 : (m.hd h).cell ≠ 0 := by omega
    have ep : m.pop h t = (.ends (.val (m.worths.getD ((m.hd h).cell - 1) 0)), { m with freed := m.freed ++ [(m.hd h).cell] }.endedH h (.val (m.worths.getD ((m.hd h).cell - 1) 0))) := by unfold M.pop; rw [if_pos e1]
    rw [ep] at q
    walk_at "q"
    refine s_app (dm_free T (ev_var rfl)) T.freeL (dh_cell O (ev_var rfl)) (by rw [List.length_map]; exact Nat.lt_of_lt_of_le hf (by decide)) ?_
    have e2 : List.map natV m.freed ++ [V.int (m.hd h).cell] = (m.freed ++ [(m.hd h).cell]).map natV := by rw [List.map_append]; rfl
    rw [e2]
    obtain ⟨T1, C1⟩ := T.setFree (m.freed ++ [(m.hd h).cell])
    obtain ⟨sv1, O1, S1⟩ := T1.handO ha
    dsimp only
    have hv : (m.worths.map V.int)[(m.hd h).cell - 1]? = some (ansV (.val (m.worths.getD ((m.hd h).cell - 1) 0))) := by
      rw [List.getElem?_map, List.getD_eq_getElem?_getD, List.getElem?_eq_getElem (by omega)]
      rfl
    refine s_ret_of (s_call (ea_cons (ev_var rfl) (ea_cons (ev_ixL (dm_values T1 (ev_var rfl)) (ev_sub (dh_cell O1 (ev_var rfl)) ev_c) (SqL.of T1.valuesL) (atI_pred (by show 1 ≤ (m.hd h).cell; omega) hv)) ea_nil)) ⟨A, _, h, a, _, rfl, T1, ha, hs, fun H2 v T2 C2 W => ?_⟩)
    exact q H2 v T2 (C1.trans C2) W
  have e0 := of_decide_eq_false e
  have e1 : (m.hd h).cell = 0 := by omega
  dsimp only [tNext]
  have S' := S
  rw [hseen] at S'
  obtain ⟨p, rfl, hp⟩ := S'
  walk_at "q"
  refine s_asg (ev_ixT (dh_seen O (ev_var rfl)) ev_c (SqT.of hp) (atI_nat (j := 0) rfl)) ?_
  walk_at "q"
  refine s_if (ev_dnamed T O rfl rfl rfl) (fun e => ?_) (fun e => ?_)
  · have e2 := of_decide_eq_true e
    have ep : m.pop h t = m.guard h t := by
      unfold M.pop
      rw [if_neg (by omega), if_pos e2]
    rw [ep] at q
    rw [← M.setH_self (m := m) (h := h)] at T
    walk_at "q"
    refine s_if (et_test (ev_ne (dh_mark O (ev_var rfl)) (ev_var rfl) rfl)) (fun e => ?_) (fun e => ?_)
    · have e1 : (m.hd h).mark ≠ t := fun z => by simp [z] at e
      have eg : m.guard h t = (.marks t, m.setH h { m.hd h with mark := t }) := by unfold M.guard; rw [if_pos e1]
      rw [eg] at q
      walk_at "q"
      refine dsh_mark (n := t) T ha O S (ev_var rfl) (ev_var rfl) fun H1 T1 C1 O1 => ?_
      dsimp only
      exact ds_tell (w := .marks t) T1 C1 (ea_cons ev_c (ea_cons (ev_var rfl) ea_nil)) q
    · have e1 : (m.hd h).mark = t := by
        have := e
        simp only [Bool.not_eq_false', decide_eq_true_eq] at this
        have z := V.int.inj this
        exact Int.ofNat_inj.mp z
      dsimp only [tNext]
      have Tm := T
      rw [M.setH_self] at Tm
      walk_at "q"
      refine dsh_looked (n := decide (m.top = t)) T ha O S (ev_is (ev_eq (dm_top Tm (ev_var rfl)) (ev_var rfl) rfl) (by rw [dec_nat])) (ev_var rfl) fun H1 T1 C1 O1 => ?_
      have hl := T1.len ha
      rw [M.setH_len] at hl
      walk_at "q"
      by_cases et : m.top = t
      · have eg : m.guard h t = (.looks true, m.setH h { m.hd h with looked := true }) := by unfold M.guard; rw [if_neg (not_not_intro e1), if_neg (not_not_intro et)]
        rw [eg] at q
        refine s_ifF (et_is (et_test (ev_ne (dm_top T1 (ev_var rfl)) (ev_var rfl) rfl)) (by rw [dec_nat]; show (!decide (m.top = t)) = false; rw [decide_eq_true et]; rfl)) ?_
        dsimp only [tNext]
        rw [decide_eq_true et] at T1
        exact ds_tell (w := .looks true) T1 C1 (ea_cons ev_c (ea_cons (ev_is (ev_eq (dm_top T1 (ev_var rfl)) (ev_var rfl) rfl) (by rw [dec_nat]; show V.bl (decide (m.top = t)) = _; rw [decide_eq_true et])) ea_nil)) q
      · have eg : m.guard h t = (.looks false, m.setH h (m.hd h).forgot) := by unfold M.guard; rw [if_neg (not_not_intro e1), if_pos et]
        rw [eg] at q
        refine s_ifT (et_is (et_test (ev_ne (dm_top T1 (ev_var rfl)) (ev_var rfl) rfl)) (by rw [dec_nat]; show (!decide (m.top = t)) = true; rw [decide_eq_false et]; rfl)) ?_
        refine s_drop' (s_call (ea_cons (ev_var rfl) ea_nil) ⟨A, _, h, a, rfl, T1, ha, fun H2 T2 C2 => ?_⟩)
        rw [M.setH_hd hl, M.setH_setH] at T2
        dsimp only
        exact ds_tell (w := .looks false) T2 (C1.trans C2) (ea_cons ev_c (ea_cons (ev_is (ev_eq (dm_top T2 (ev_var rfl)) (ev_var rfl) rfl) (by rw [dec_nat]; show V.bl (decide (m.top = t)) = _; rw [decide_eq_false et])) ea_nil)) q
  have e2 := of_decide_eq_false e
  dsimp only [tNext]
  have hlk : (m.links.map natV)[t - 1]? = some (natV (m.links.getD (t - 1) 0)) := by
    rw [List.getElem?_map, List.getD_eq_getElem?_getD, List.getElem?_eq_getElem (by omega)]
    rfl
  walk_at "q"
  cases ef : (m.hd h).follow with
  | none =>
    have ep : m.pop h t = (.follows (m.links.getD (t - 1) 0), m.setH h { m.hd h with follow := some (m.links.getD (t - 1) 0) }) := by
      unfold M.pop
      rw [if_neg (by omega), if_neg e2, ef]
    rw [ep] at q
    refine s_ifT (et_is (et_test (ev_isN (dh_follow O (ev_var rfl)))) (by rw [optV_non, ef]; rfl)) ?_
    rw [← M.setH_self (m := m) (h := h)] at T
    walk_at "q"
    refine dsh_follow (n := some (m.links.getD (t - 1) 0)) T ha O S (ev_ixL (dm_links T (ev_var rfl)) (ev_sub (ev_var rfl) ev_c) (SqL.of T.linksL) (atI_pred ht1 hlk)) (ev_var rfl) fun H1 T1 C1 O1 => ?_
    dsimp only
    exact ds_tell (w := .follows (m.links.getD (t - 1) 0)) T1 C1 (ea_cons ev_c (ea_cons (dh_follow O1 (ev_var rfl)) ea_nil)) q
  | some f =>
    refine s_ifF (et_is (et_test (ev_isN (dh_follow O (ev_var rfl)))) (by rw [optV_non, ef]; rfl)) ?_
    dsimp only [tNext]
    walk_at "q"
    refine s_asg (ev_is (dh_follow O (ev_var rfl)) (show _ = V.int f by rw [ef]; rfl)) ?_
    walk_at "q"
    refine s_if_of ?_
    show tCall _ _ _ _ _ _ _
    refine s_call (ea_cons (ev_var rfl) (ea_cons (ev_var rfl) (ea_cons (ev_var rfl) ea_nil))) ⟨A, m, h, f, a, rfl, T, ha, hz, oc, fun H1 T1 C1 => ?_⟩
    refine ⟨_, rfl, ?_⟩
    cases e : m.fits h with
    | false =>
      have ex : m.exch h f = (false, m.setH h (m.hd h).forgot) := by unfold M.exch; rw [e]; rfl
      have ep : m.pop h t = (.misses, m.setH h (m.hd h).forgot) := by
        unfold M.pop
        rw [if_neg (by omega), if_neg e2, ef, e]
        rfl
      rw [ex] at T1 ⊢
      rw [ep] at q
      refine iteT ?_
      dsimp only
      exact ds_tell (w := .misses) T1 C1 (ea_cons ev_c ea_nil) q
    | true =>
      have ex : m.exch h f = (true, m.exchd h f) := by unfold M.exch; rw [e]; rfl
      have ep : m.pop h t = (.exchanges f, { m.exchd h f with strayed := m.strayed || m.links.getD (t - 1) 0 != f }.setH h { m.hd h with cell := t }) := by
        unfold M.pop
        rw [if_neg (by omega), if_neg e2, ef, e]
        rfl
      rw [ex] at T1 ⊢
      rw [ep] at q
      refine iteF ?_
      dsimp only [tNext]
      walk_at "q"
      have hne : Ev (tOp (rNeD Z.K) (tOp (rIxL Z.K) (tDGet (tVar 0) (tC (.str "links"))) (tOp rSubI (tVar 3) (tC (.int 1)))) (tVar 4)) ((((start ["_law_s", "_law_hand", "_law_h", "_law_cell_here", "_law_follow"] [V.ref A.s, V.int h]).set 2 (some (V.ref a.d))).set 3 (some (V.int t))).set 4 (some (V.int f))) H1 (.bl (m.links.getD (t - 1) 0 != f)) := by
        refine ev_is (ev_neD (ev_ixL (dm_links T1 (ev_var rfl)) (ev_sub (ev_var rfl) ev_c) (SqL.of T1.linksL) (atI_pred ht1 hlk)) (ev_var rfl) (.int _) (.int _) rfl rfl) ?_
        show V.bl (!((m.links.getD (t - 1) 0 : Nat) : Int) == (f : Int)) = _
        congr 1
        show _ = !(m.links.getD (t - 1) 0 == f)
        congr 1
        rw [Bool.beq_eq_decide_eq, Bool.beq_eq_decide_eq]
        exact decide_eq_decide.mpr Int.ofNat_inj
      refine dsm_stale (t := m.strayed || m.links.getD (t - 1) 0 != f) T1 (ev_orV (ev_is (dm_stale T1 (ev_var rfl)) rfl) fun _ => hne) (ev_var rfl) fun H2 T2 C2 K2 => ?_
      walk_at "q"
      have T2' : DMachAt H2 A ({ m.exchd h f with strayed := m.strayed || m.links.getD (t - 1) 0 != f }.setH h (m.hd h)) := by
        have z : { m.exchd h f with strayed := m.strayed || m.links.getD (t - 1) 0 != f }.setH h (m.hd h) = { m.exchd h f with strayed := m.strayed || m.links.getD (t - 1) 0 != f } := M.setH_self (m := { m.exchd h f with strayed := m.strayed || m.links.getD (t - 1) 0 != f }) (h := h)
        rw [z]
        exact T2
      obtain ⟨sv2, O2, S2⟩ := T2'.hO ha
      refine dsh_cell (n := t) T2' ha O2 S2 (ev_var rfl) (ev_var rfl) fun H3 T3 C3 O3 => ?_
      dsimp only
      exact ds_tell (w := .exchanges f) T3 ((C1.trans C2).trans C3) (ea_cons ev_c (ea_cons (ev_var rfl) ea_nil)) q
end SS

set_option Elab.async false
set_option linter.all false
set_option maxRecDepth 100000
set_option maxHeartbeats 4000000
namespace SS
open PySem L2
local macro_rules | `(tactic| walk_at "q") => `(tactic| ((try dsimp only); refine s_seq ?_))

theorem pure_L_turn {Z : Cs} (vs : List V) (H : Hp) (Q : VK) (E : XK) (h : sp_L_turn Z vs H Q E) : t_L_turn Z { nx := fun _ H' => Q .non H', rt := Q } (start ["_law_s", "_law_hand", "_law_h", "_law_deed_here"] vs) H := by
  obtain ⟨A, m, h, rfl, T, W, hl, q⟩ := h
  obtain ⟨a, ha⟩ := T.hand_of hl
  obtain ⟨sv, O, S⟩ := T.handO ha
  obtain ⟨_, usd, P0, hu0⟩ := T.deeds h a ha
  unfold t_L_turn
  walk_at "q"
  refine s_asg (dm_hand T ha (ev_var rfl) (ev_var rfl)) ?_
  walk_at "q"
  have er0 : decide (V.int (((m.hd h).at_ : Nat) : Int) = V.int ((usd.length : Nat) : Int)) = m.rests h := by
    rw [hu0.length, dec_nat]
    unfold M.rests
    rw [Bool.beq_eq_decide_eq]
  refine s_if_of (et_is (et_test (ev_eq (dh_at O (ev_var rfl)) (ev_lenL (dh_deeds O (ev_var rfl)) (SqL.of P0)) rfl)) er0 _ ?_)
  cases er : m.rests h with
  | true =>
    have ep : (m.prog h)[(m.hd h).at_]? = none := by
      unfold M.rests at er
      have : (m.hd h).at_ = (m.prog h).length := eq_of_beq er
      rw [this]
      exact List.getElem?_eq_none (Nat.le_refl _)
    have et : m.turn h = (.rests, m) := by unfold M.turn; rw [ep]
    rw [et] at q
    refine iteT ?_
    dsimp only
    exact s_ret_of (e_tup (ea_cons ev_c ea_nil) (by show 1 ≤ 1000; decide) fun p hp => q _ _ (T.new hp) (Chg.same (Same.new hp)) ⟨p, rfl, upd_same⟩)
  | false =>
    refine iteF ?_
    dsimp only [tNext]
    have hat : (m.hd h).at_ < (m.prog h).length := by
      have := W.at_ h
      unfold M.rests at er
      have : (m.hd h).at_ ≠ (m.prog h).length := by simpa using er
      omega
    obtain ⟨d, hd⟩ : ∃ d, (m.prog h)[(m.hd h).at_]? = some d := ⟨_, List.getElem?_eq_getElem hat⟩
    obtain ⟨us, p, P, hp, hq⟩ := T.deed ha hd
    walk_at "q"
    refine s_asg (ev_ixL (dh_deeds O (ev_var rfl)) (dh_at O (ev_var rfl)) (SqL.of P) hp) ?_
    walk_at "q"
    have n1 : decide (V.str "pop" = V.str "push") = false := by decide +kernel
    have n2 : decide (V.str "push" = V.str "push") = true := decide_eq_true rfl
    have n4 : decide (V.str "push" = V.str "pop") = false := by decide +kernel
    have n5 : decide (V.str "pop" = V.str "pop") = true := decide_eq_true rfl
    cases d with
    | pop =>
      refine s_ifF (et_is (et_and (b := true) (et_test (ev_eq (ev_word rfl hq) ev_c rfl)) fun e => absurd (n1.symm.trans e) Bool.false_ne_true) (by rw [n1]; rfl)) ?_
      dsimp only [tNext]
      walk_at "q"
      cases es : (m.hd h).seen with
      | none =>
        have et : m.turn h = m.read h .pop := by unfold M.turn; rw [hd, es]
        rw [et] at q
        have ev : sv = .non := by
          rw [es] at S
          exact S
        refine s_ifT (et_is (et_test (ev_isN (dh_seen O (ev_var rfl)))) (by rw [ev]; rfl)) ?_
        walk_at "q"
        by_cases t0 : m.top = 0
        · have eq : m.read h .pop = (.ends .non, { m with ends := m.ends ++ [(h, (m.hd h).at_)] }.endedH h .non) := by unfold M.read; rw [if_pos ⟨t0, rfl⟩]
          rw [eq] at q
          refine s_ifT (et_is (et_and (et_test (ev_eq (ev_word rfl hq) ev_c rfl)) fun _ => et_test (ev_eq (dm_top T (ev_var rfl)) ev_c rfl)) (by rw [n5, dec_nat0, decide_eq_true t0]; rfl)) ?_
          walk_at "q"
          refine ds_ends T ha W.el rfl rfl (dh_at O (ev_var rfl)) fun H1 T1 C1 => ?_
          dsimp only
          refine s_ret_of (s_call (ea_cons (ev_var rfl) (ea_cons ev_c ea_nil)) ⟨A, _, h, a, .non, rfl, T1, ha, W.sl h, fun H2 v T2 C2 w2 => q H2 v T2 (C1.trans C2) w2⟩)
        · have eq : m.read h .pop = (.reads m.top, m.setH h { m.hd h with seen := some (m.top, m.count) }) := by unfold M.read; rw [if_neg (fun z => t0 z.1)]
          rw [eq] at q
          refine s_ifF (et_is (et_and (et_test (ev_eq (ev_word rfl hq) ev_c rfl)) fun _ => et_test (ev_eq (dm_top T (ev_var rfl)) ev_c rfl)) (by rw [n5, dec_nat0, decide_eq_false t0]; rfl)) ?_
          dsimp only [tNext]
          walk_at "q"
          refine s_dput_of (e_tup (ea_cons (dm_top T (ev_var rfl)) (ea_cons (dm_count T (ev_var rfl)) ea_nil)) (by show 2 ≤ 1000; decide) fun pt hpt => ?_)
          have k1 : Same H (upd H pt (.tup [.int m.top, .int m.count])) := Same.new hpt
          have T1 := T.same k1
          have O1 := k1 _ _ O
          have C1 : Chg A.owns H (upd H pt (.tup [.int m.top, .int m.count])) := Chg.same k1
          have S1 : SeenAt (upd H pt (.tup [.int m.top, .int m.count])) (.ref pt) (some (m.top, m.count)) := ⟨pt, rfl, upd_same⟩
          generalize upd H pt (.tup [.int m.top, .int m.count]) = H1 at T1 O1 C1 S1 ⊢
          rw [← M.setH_self (m := m) (h := h)] at T1
          show sDPut (tVar 2) (tC (.str "seen")) (tC (.ref pt)) _ _ H1
          refine dsh_seen (o := some (m.top, m.count)) T1 ha O1 S1 ev_c (ev_var rfl) fun H2 T2 C2 O2 => ?_
          dsimp only
          exact ds_tell (w := .reads m.top) T2 (C1.trans C2) (ea_cons ev_c (ea_cons (ev_is (dm_top T2 (ev_var rfl)) rfl) ea_nil)) q
      | some z =>
        obtain ⟨t, kk⟩ := z
        have et : m.turn h = m.pop h t := by unfold M.turn; rw [hd, es]
        rw [et] at q
        have ev : sv ≠ .non := by
          rw [es] at S
          obtain ⟨y, e, _⟩ := S
          rw [e]
          intro z
          cases z
        refine s_ifF (et_is (et_test (ev_isN (dh_seen O (ev_var rfl)))) (decide_eq_false ev)) ?_
        dsimp only [tNext]
        walk_at "q"
        refine s_ifT (et_is (et_test (ev_eq (ev_word rfl hq) ev_c rfl)) n5) ?_
        obtain ⟨p1, p2⟩ := W.popC h _ hd es
        exact s_ret_of (s_call (ea_cons (ev_var rfl) (ea_cons (ev_var rfl) ea_nil)) ⟨A, m, h, t, kk, a, rfl, T, ha, es, ⟨p1, by rw [W.ll]; exact p2⟩, W.cell h, W.sl h, W.el, W.fl, W.count, q⟩)
    | push v =>
      by_cases ec : (m.hd h).cell = 0
      · refine s_ifT (et_is (et_and (et_test (ev_eq (ev_word rfl hq) ev_c rfl)) fun _ => et_test (ev_eq (dh_cell O (ev_var rfl)) ev_c rfl)) (by
          have n3 : decide (V.int ((m.hd h).cell : Int) = V.int 0) = true := by rw [ec]; rfl
          rw [n3]
          rfl)) ?_
        have et : m.turn h = (.takes (m.taken v).1, (m.taken v).2.setH h { m.hd h with cell := (m.taken v).1 }) := by unfold M.turn; rw [hd]; exact if_pos ec
        rw [et] at q
        refine s_ret_of (t_tup_of (t_cons_of (ev_c _ (t_cons_of (s_call (ea_cons (ev_var rfl) (ea_cons (ev_var rfl) (ea_cons (ev_ixT (ev_var rfl) ev_c (SqT.of hq) (atI_nat (j := 1) rfl)) ea_nil))) ⟨A, m, h, a, v, rfl, T, ha, W.hn, W.wl, by rw [W.ll]; exact W.wl, Nat.le_of_lt W.fl, W.fr, fun H1 T1 C1 => ?_⟩)))))
        exact ⟨by show 2 ≤ sizeLine; decide, fun pt hpt => q _ _ (T1.new hpt) (C1.trans (Chg.same (Same.new hpt))) ⟨pt, rfl, upd_same⟩⟩
      · refine s_ifF (et_is (et_and (et_test (ev_eq (ev_word rfl hq) ev_c rfl)) fun _ => et_test (ev_eq (dh_cell O (ev_var rfl)) ev_c rfl)) (by
          have n3 : decide (V.int ((m.hd h).cell : Int) = V.int 0) = false := by rw [dec_nat0]; exact decide_eq_false ec
          rw [n3, Bool.and_false])) ?_
        dsimp only [tNext]
        walk_at "q"
        cases es : (m.hd h).seen with
        | none =>
          have et : m.turn h = m.read h (.push v) := by unfold M.turn; rw [hd, es]; exact if_neg ec
          have eq : m.read h (.push v) = (.reads m.top, m.setH h { m.hd h with seen := some (m.top, m.count) }) := by unfold M.read; rw [if_neg (fun z => by cases z.2)]
          rw [et, eq] at q
          have ev : sv = .non := by
            rw [es] at S
            exact S
          refine s_ifT (et_is (et_test (ev_isN (dh_seen O (ev_var rfl)))) (by rw [ev]; rfl)) ?_
          walk_at "q"
          refine s_ifF (et_is (et_and (b := true) (et_test (ev_eq (ev_word rfl hq) ev_c rfl)) fun e => absurd (n4.symm.trans e) Bool.false_ne_true) (by rw [n4]; rfl)) ?_
          dsimp only [tNext]
          walk_at "q"
          refine s_dput_of (e_tup (ea_cons (dm_top T (ev_var rfl)) (ea_cons (dm_count T (ev_var rfl)) ea_nil)) (by show 2 ≤ 1000; decide) fun pt hpt => ?_)
          have k1 : Same H (upd H pt (.tup [.int m.top, .int m.count])) := Same.new hpt
          have T1 := T.same k1
          have O1 := k1 _ _ O
          have C1 : Chg A.owns H (upd H pt (.tup [.int m.top, .int m.count])) := Chg.same k1
          have S1 : SeenAt (upd H pt (.tup [.int m.top, .int m.count])) (.ref pt) (some (m.top, m.count)) := ⟨pt, rfl, upd_same⟩
          generalize upd H pt (.tup [.int m.top, .int m.count]) = H1 at T1 O1 C1 S1 ⊢
          rw [← M.setH_self (m := m) (h := h)] at T1
          show sDPut (tVar 2) (tC (.str "seen")) (tC (.ref pt)) _ _ H1
          refine dsh_seen (o := some (m.top, m.count)) T1 ha O1 S1 ev_c (ev_var rfl) fun H2 T2 C2 O2 => ?_
          dsimp only
          exact ds_tell (w := .reads m.top) T2 (C1.trans C2) (ea_cons ev_c (ea_cons (ev_is (dm_top T2 (ev_var rfl)) rfl) ea_nil)) q
        | some z =>
          obtain ⟨t, kk⟩ := z
          have et : m.turn h = m.push h t := by unfold M.turn; rw [hd, es]; exact if_neg ec
          rw [et] at q
          have S' := S
          rw [es] at S'
          obtain ⟨ps, rfl, hps⟩ := S'
          refine s_ifF (et_is (et_test (ev_isN (dh_seen O (ev_var rfl)))) (decide_eq_false (fun z => by cases z))) ?_
          dsimp only [tNext]
          walk_at "q"
          refine s_ifF (et_is (et_test (ev_eq (ev_word rfl hq) ev_c rfl)) n4) ?_
          dsimp only [tNext]
          walk_at "q"
          have cl := W.cell h
          cases ef : (m.hd h).follow with
          | none =>
            have ep : m.push h t = (.links t, { m with links := m.links.set ((m.hd h).cell - 1) t }.setH h { m.hd h with follow := some t }) := by unfold M.push; rw [ef]
            rw [ep] at q
            refine s_ifT (et_is (et_test (ev_isN (dh_follow O (ev_var rfl)))) (by rw [optV_non, ef]; rfl)) ?_
            rw [← M.setH_self (m := m) (h := h)] at T
            walk_at "q"
            refine dsh_follow (n := some t) T ha O S (ev_ixT (dh_seen O (ev_var rfl)) ev_c (SqT.of hps) (atI_nat (j := 0) rfl)) (ev_var rfl) fun H1 T1 C1 O1 => ?_
            walk_at "q"
            refine s_setL (j := (m.hd h).cell - 1) (dh_follow O1 (ev_var rfl)) (dm_links T1 (ev_var rfl)) (ev_sub (dh_cell O1 (ev_var rfl)) ev_c) T1.linksL (by rw [List.length_map]; exact ixN_pred (by show 1 ≤ (m.hd h).cell; omega) (by show _ ≤ m.links.length; rw [W.ll]; exact cl)) ?_
            have ew : (List.map natV (m.setH h { m.hd h with follow := some t }).links).set ((m.hd h).cell - 1) (optV (some t)) = (m.links.set ((m.hd h).cell - 1) t).map natV := by
              rw [List.map_set]
              rfl
            obtain ⟨T2, C2⟩ := T1.setLinks (m.links.set ((m.hd h).cell - 1) t)
            dsimp only at ew ⊢
            rw [ew]
            obtain ⟨sv3, O3, S3⟩ := T2.handO ha
            have eh3 : ({ m.setH h { m.hd h with follow := some t } with links := m.links.set ((m.hd h).cell - 1) t } : M).hd h = { m.hd h with follow := some t } := M.setH_hd (m := m) hl
            rw [eh3] at O3
            exact ds_tell (w := .links t) T2 (C1.trans C2) (ea_cons ev_c (ea_cons (ev_is (dh_follow O3 (ev_var rfl)) rfl) ea_nil)) q
          | some f =>
            refine s_ifF (et_is (et_test (ev_isN (dh_follow O (ev_var rfl)))) (by rw [optV_non, ef]; rfl)) ?_
            dsimp only [tNext]
            walk_at "q"
            refine s_if_of ?_
            show tCall _ _ _ _ _ _ _
            refine s_call (ea_cons (ev_var rfl) (ea_cons (ev_var rfl) (ea_cons (dh_cell O (ev_var rfl)) ea_nil))) ⟨A, m, h, (m.hd h).cell, a, rfl, T, ha, W.el, W.count, fun H1 T1 C1 => ?_⟩
            refine ⟨_, rfl, ?_⟩
            cases e : m.fits h with
            | false =>
              have ex : m.exch h (m.hd h).cell = (false, m.setH h (m.hd h).forgot) := by unfold M.exch; rw [e]; rfl
              have ep : m.push h t = (.misses, m.setH h (m.hd h).forgot) := by unfold M.push; rw [ef, e]; rfl
              rw [ex] at T1 ⊢
              rw [ep] at q
              refine iteT ?_
              dsimp only
              exact ds_tell (w := .misses) T1 C1 (ea_cons ev_c ea_nil) q
            | true =>
              have ex : m.exch h (m.hd h).cell = (true, m.exchd h (m.hd h).cell) := by unfold M.exch; rw [e]; rfl
              have ep : m.push h t = (.ends .done, (m.exchd h (m.hd h).cell).endedH h .done) := by unfold M.push; rw [ef, e]; rfl
              rw [ex] at T1 ⊢
              rw [ep] at q
              refine iteF ?_
              dsimp only [tNext]
              refine s_ret_of (s_call (ea_cons (ev_var rfl) (ea_cons ev_c ea_nil)) ⟨A, _, h, a, .done, rfl, T1, ha, W.sl h, fun H2 v T2 C2 w2 => q H2 v T2 (C1.trans C2) w2⟩)
theorem pure_L_pile {Z : Cs} (vs : List V) (H : Hp) (Q : VK) (E : XK) (h : sp_L_pile Z vs H Q E) : t_L_pile Z { nx := fun _ H' => Q .non H', rt := Q } (start ["_law_s", "_law_found", "_law_cell_here"] vs) H := by
  obtain ⟨A, m, rfl, T, ok, q⟩ := h
  unfold t_L_pile
  walk_at "q"
  refine e_lst ea_nil (by show 0 ≤ 1000; decide) fun l hl => ?_
  have T1 := T.new (o := .lst []) hl
  show ({ nx := _, rt := Q : Ends }).nx _ _
  walk_at "q"
  refine s_asg (dm_top T1 (ev_var rfl)) ?_
  walk_at "q"
  refine s_while (fun s' H' => ∃ (found : List Nat) (cell : Nat), s' = [some (.ref A.s), some (.ref l), some (.int cell)] ∧ Same H H' ∧ H' l = some (.lst (found.map natV)) ∧ found.Nodup ∧ (∀ x ∈ found, 1 ≤ x ∧ x ≤ m.links.length) ∧ cell ≤ m.links.length ∧
      found.length ≤ m.links.length ∧ M.pileFrom m.links (m.links.length + 1 - found.length) found cell = m.pile)
    (fun s' H' => match H' l with | some (.lst xs) => m.links.length + 1 - xs.length | _ => 0)
    ⟨[], m.top, rfl, Same.new hl, upd_same, .nil, (fun x hx => by cases hx), ok.top, Nat.zero_le _, rfl⟩ ?_
  rintro s' H' ⟨found, cell, rfl, c, hL, nd, hf, hc, hlen, hp⟩
  have T' := T.same c
  have test : EvT (tAnd (tTest (tOp rGtI (tVar 2) (tC (.int 0)))) (tTest (tOp (rIn Z.K true) (tVar 2) (tVar 1)))) [some (.ref A.s), some (.ref l), some (.int cell)] H' (!decide (cell = 0 ∨ cell ∈ found)) := by
    refine et_is (et_and (et_test (ev_gt (ev_var rfl) ev_c)) fun _ => et_test (ev_inL (ev_var rfl) (ev_var rfl) (SqL.of hL) rfl (flat_nat _))) ?_
    have eg : decide ((0 : Int) < (cell : Int)) = !decide (cell = 0) := by
      by_cases z : cell = 0
      · rw [z]; rfl
      · rw [decide_eq_false z, decide_eq_true (by omega)]; rfl
    rw [eg, if_pos rfl, inV_nat, Bool.decide_or, Bool.not_or, List.contains_eq_mem]
  have hn : m.links.length + 1 - found.length = (m.links.length - found.length) + 1 := by omega
  by_cases e : cell = 0 ∨ cell ∈ found
  · left
    refine ⟨et_is test (by rw [decide_eq_true e]; rfl), ?_⟩
    rw [hn, M.pileFrom, if_pos e] at hp
    dsimp only
    exact s_ret (ev_var rfl) (q l H' hl c (by rw [← hp]; exact hL))
  · right
    refine ⟨et_is test (by rw [decide_eq_false e]; rfl), ?_⟩
    rw [hn, M.pileFrom, if_neg e] at hp
    walk_at "q"
    refine s_app (ev_var rfl) hL (ev_var rfl) (by rw [List.length_map]; exact Nat.lt_of_le_of_lt (Nat.le_trans hlen (by rw [ok.ll]; exact ok.wl)) (by decide)) ?_
    have e2 : List.map natV found ++ [V.int cell] = (found ++ [cell]).map natV := by rw [List.map_append]; rfl
    rw [e2]
    have c2 : Same H (upd H' l (.lst ((found ++ [cell]).map natV))) := same_newer c hl
    have T2 := T.same c2
    have h1 : 1 ≤ cell ∧ cell ≤ m.links.length := by omega
    have nd2 : (found ++ [cell]).Nodup := by
      rw [List.nodup_append]
      refine ⟨nd, by simp, fun a ha b hb => ?_⟩
      have : b = cell := by simpa using hb
      rw [this]
      exact fun z => e (.inr (z ▸ ha))
    have hf2 : ∀ x ∈ found ++ [cell], 1 ≤ x ∧ x ≤ m.links.length := fun x hx => by
      rcases List.mem_append.mp hx with z | z
      · exact hf x z
      · have e : x = cell := by simpa using z
        rw [e]
        exact h1
    have hlen2 := pigeon _ _ nd2 hf2
    have hlk : (m.links.map natV)[cell - 1]? = some (natV (m.links.getD (cell - 1) 0)) := by
      rw [List.getElem?_map, List.getD_eq_getElem?_getD, List.getElem?_eq_getElem (by omega)]
      rfl
    dsimp only
    refine s_asg (ev_ixL (dm_links T2 (ev_var rfl)) (ev_sub (ev_var rfl) ev_c) (SqL.of T2.linksL) (atI_pred h1.1 hlk)) ?_
    refine ⟨⟨found ++ [cell], m.links.getD (cell - 1) 0, rfl, c2, upd_same, nd2, hf2, ?_, hlen2, ?_⟩, ?_⟩
    · rw [List.getD_eq_getElem?_getD, List.getElem?_eq_getElem (by omega)]
      exact ok.links _ (List.getElem_mem _)
    · rw [List.length_append]
      show M.pileFrom _ (m.links.length + 1 - (found.length + 1)) _ _ = _
      rw [show m.links.length + 1 - (found.length + 1) = m.links.length - found.length by omega]
      exact hp
    · rw [hL]
      simp only [upd_same, List.length_map, List.length_append, List.length_singleton]
      have : (found ++ [cell]).length = found.length + 1 := by simp
      omega
end SS

set_option Elab.async false
set_option linter.all false
set_option maxRecDepth 100000
set_option maxHeartbeats 4000000
namespace SS
open PySem L2
local macro_rules | `(tactic| walk_at "q") => `(tactic| ((try dsimp only); refine s_seq ?_))

theorem begin_hd0 (values : List Int) (ps : List (List Deed)) (r : Rule) (j : Nat) : (M.begin_ values ps r).hd j = {} := by
  unfold M.hd M.begin_
  simp only [List.getD_eq_getElem?_getD, List.getElem?_map]
  cases ps[j]? <;> rfl

/-! ### new things, all apart -/
structure Lay (H H' : Hp) (L : List (Addr × HO)) : Prop where
  same : Same H H'
  nd : (L.map (·.1)).Nodup
  there : ∀ e ∈ L, H e.1 = none ∧ H' e.1 = some e.2
theorem Lay.nil {H H' : Hp} (c : Same H H') : Lay H H' [] := ⟨c, List.nodup_nil, fun _ h => by cases h⟩
theorem Lay.snoc {H H' : Hp} {L : List (Addr × HO)} (l : Lay H H' L) {q : Addr} {o : HO} (hq : H' q = none) : Lay H (upd H' q o) (L ++ [(q, o)]) := by
  refine ⟨Same.trans l.same (Same.new hq), ?_, fun e he => ?_⟩
  · rw [List.map_append, List.nodup_append]
    refine ⟨l.nd, by simp, fun a ha b hb => ?_⟩
    have eb : b = q := by simpa using hb
    obtain ⟨e, he, ea⟩ := List.mem_map.mp ha
    rw [eb, ← ea]
    exact fun z => by
      have := (l.there e he).2
      rw [z, hq] at this
      cases this
  · rcases List.mem_append.mp he with z | z
    · have := l.there e z
      refine ⟨this.1, ?_⟩
      rw [upd_ne (ne_of_none this.2 hq)]
      exact this.2
    · have : e = (q, o) := by simpa using z
      subst this
      exact ⟨free_of l.same hq, upd_same⟩
theorem Lay.get {H H' : Hp} {L : List (Addr × HO)} (l : Lay H H' L) {i : Nat} {q : Addr} {o : HO} (h : L[i]? = some (q, o)) : H' q = some o := (l.there _ (List.mem_of_getElem? h)).2
theorem Lay.put {H H' : Hp} {L : List (Addr × HO)} (l : Lay H H' L) {i : Nat} {q : Addr} {o o' : HO} (h : L[i]? = some (q, o)) : Lay H (upd H' q o') (L.set i (q, o')) := by
  have hi : i < L.length := (List.getElem?_eq_some_iff.mp h).1
  have hf := (l.there _ (List.mem_of_getElem? h)).1
  have em : (L.set i (q, o')).map (·.1) = L.map (·.1) := by
    rw [List.map_set]
    apply List.ext_getElem?
    intro j
    rw [List.getElem?_set]
    split
    · next e =>
      subst e
      rw [if_pos (by rw [List.length_map]; exact hi), List.getElem?_map, h]
      rfl
    · rfl
  refine ⟨same_newer l.same hf, by rw [em]; exact l.nd, fun e he => ?_⟩
  obtain ⟨j, hj⟩ := List.mem_iff_getElem?.mp he
  rw [List.getElem?_set] at hj
  by_cases e2 : i = j
  · rw [if_pos e2, if_pos (by omega)] at hj
    have : (q, o') = e := Option.some.inj hj
    subst this
    exact ⟨hf, upd_same⟩
  · rw [if_neg e2] at hj
    have := l.there e (List.mem_of_getElem? hj)
    refine ⟨this.1, ?_⟩
    have ne : e.1 ≠ q := fun z => e2 (nodup_ix l.nd (i := i) (j := j) (a := q) (by rw [List.getElem?_map, h]; rfl) (by rw [List.getElem?_map, hj]; exact congrArg some z))
    rw [upd_ne ne]
    exact this.2
theorem Lay.more {H H' H2 : Hp} {L : List (Addr × HO)} (l : Lay H H' L) (c : Same H' H2) : Lay H H2 L := ⟨Same.trans l.same c, l.nd, fun e he => ⟨(l.there e he).1, c _ _ (l.there e he).2⟩⟩
theorem tp_cons {tk tv : TE} {r : List (TE × TE)} {s : L2.St} {H : Hp} {x : V} {Q : List (V × V) → Hp → Prop} (hk : Ev tk s H x) (h : tv s H fun y H2 => tPairs r s H2 fun ps H3 => Q ((x, y) :: ps) H3) : tPairs ((tk, tv) :: r) s H Q := hk _ h
def two (a : DHA) : List (Addr × HO) := [(a.d, .dK (dhf a .non {})), (a.said, .lst [])]
theorem two_get : ∀ (hs : List DHA) (i : Nat) (a : DHA), hs[i]? = some a → (hs.flatMap two)[2 * i]? = some (a.d, .dK (dhf a .non {})) ∧ (hs.flatMap two)[2 * i + 1]? = some (a.said, .lst [])
  | [], i, a, h => by cases h
  | b :: hs, 0, a, h => by
    have : b = a := by simpa using h
    subst this
    exact ⟨rfl, rfl⟩
  | b :: hs, i + 1, a, h => by
    have h' : hs[i]? = some a := by simpa using h
    obtain ⟨h1, h2⟩ := two_get hs i a h'
    rw [List.flatMap_cons]
    have e : 2 * (i + 1) = 2 * i + 1 + 1 := by omega
    rw [e]
    exact ⟨h1, h2⟩
theorem two_len : ∀ hs : List DHA, (hs.flatMap two).length = 2 * hs.length
  | [] => rfl
  | b :: hs => by
    rw [List.flatMap_cons, List.length_append, two_len hs]
    show 2 + 2 * hs.length = 2 * (hs.length + 1)
    omega
def DRole.pos : DRole → Nat
  | .s => 0 | .values => 1 | .links => 2 | .free => 3 | .ends => 4 | .handsL => 5
  | .hand i => 6 + 2 * i
  | .said i => 7 + 2 * i
theorem DRole.ext {r r' : DRole} (h : r.pos = r'.pos) : r = r' := by
  cases r <;> cases r' <;> simp only [DRole.pos] at h <;> first | rfl | omega | (congr 1; omega)
theorem s_dnew {te ta : TE} {s : L2.St} {H : Hp} {D : Ends} {k : Str} (h : te s H fun v H1 => sDPut ta (tC (.str k)) (tC v) D s H1) : sDPut ta (tC (.str k)) te D s H := h
def s6 (A : DA) (m : M) : List (Addr × HO) := [(A.s, .dK (df A m)), (A.values, .lst (m.worths.map V.int)), (A.links, .lst (m.links.map natV)), (A.free, .lst []), (A.ends, .lst []), (A.handsL, .lst (A.hs.map fun a => V.ref a.d))]
theorem begun_at {values : List Int} {ps : List (List Deed)} {r : Rule} {H H' : Hp} {A : DA} (l : Lay H H' (s6 A (M.begin_ values ps r) ++ A.hs.flatMap two)) (hr : RuleAt H A.rule r) (hl : A.hs.length = ps.length)
    (hd : ∀ (i : Nat) (a : DHA), A.hs[i]? = some a → (∃ o, H a.deeds = some o) ∧ ∃ us, H' a.deeds = some (.lst us) ∧ All2 (DeedAt H') us (ps.getD i [])) : (∀ a, A.owns a → H a = none) ∧ DMachAt H' A (M.begin_ values ps r) := by
  have pos : ∀ r0 a, A.at r0 = some a → ∃ o, (s6 A (M.begin_ values ps r) ++ A.hs.flatMap two)[r0.pos]? = some (a, o) ∧ DCont H' A (M.begin_ values ps r) r0 o := by
    intro r0 a h
    have bh := begin_hd0 values ps r
    cases r0 with
    | hand i =>
      simp only [DA.at, Option.map_eq_some_iff] at h
      obtain ⟨b, h1, rfl⟩ := h
      refine ⟨.dK (dhf b .non {}), ?_, b, .non, h1, by rw [bh i], by rw [bh i]; rfl⟩
      have := (two_get A.hs i b h1).1
      rw [List.getElem?_append_right (by show 6 ≤ 6 + 2 * i; omega)]
      show (A.hs.flatMap two)[6 + 2 * i - 6]? = _
      rw [Nat.add_sub_cancel_left]
      exact this
    | said i =>
      simp only [DA.at, Option.map_eq_some_iff] at h
      obtain ⟨b, h1, rfl⟩ := h
      refine ⟨.lst [], ?_, by show _ = _; rw [bh i]; rfl⟩
      have := (two_get A.hs i b h1).2
      rw [List.getElem?_append_right (by show 6 ≤ 7 + 2 * i; omega)]
      show (A.hs.flatMap two)[7 + 2 * i - 6]? = _
      rw [show 7 + 2 * i - 6 = 2 * i + 1 by omega]
      exact this
    | s => cases h; exact ⟨_, rfl, rfl⟩
    | values => cases h; exact ⟨_, rfl, rfl⟩
    | links => cases h; exact ⟨_, rfl, rfl⟩
    | free => cases h; exact ⟨_, rfl, rfl⟩
    | ends => cases h; exact ⟨_, rfl, [], rfl, .nil⟩
    | handsL => cases h; exact ⟨_, rfl, rfl⟩
  have own : ∀ a, A.owns a → H a = none := fun a ⟨r0, h⟩ => by
    obtain ⟨o, h1, _⟩ := pos r0 a h
    exact (l.there _ (List.mem_of_getElem? h1)).1
  have bl : (M.begin_ values ps r).hands.length = ps.length := by
    show (ps.map fun _ => ({} : Hd)).length = _
    rw [List.length_map]
  refine ⟨own, fun r0 a h => ?_, hr.mono fun b xs e => l.same _ _ e, by rw [bl]; exact hl, by rw [bl]; rfl, fun r0 r1 a h0 h1 => ?_, fun i a ha => ?_⟩
  · obtain ⟨o, h1, h2⟩ := pos r0 a h
    exact ⟨o, l.get h1, h2⟩
  · obtain ⟨o0, g0, _⟩ := pos r0 a h0
    obtain ⟨o1, g1, _⟩ := pos r1 a h1
    exact DRole.ext (nodup_ix l.nd (a := a) (by rw [List.getElem?_map, g0]; rfl) (by rw [List.getElem?_map, g1]; rfl))
  · obtain ⟨⟨o, ho⟩, us, h1, h2⟩ := hd i a ha
    exact ⟨fun z => (by rw [own _ z] at ho; cases ho), us, h1, h2⟩
theorem pure_L_begun {Z : Cs} (vs : List V) (H : Hp) (Q : VK) (E : XK) (h : sp_L_begun Z vs H Q E) : t_L_begun Z { nx := fun _ H' => Q .non H', rt := Q } (start ["_law_values_here", "_law_programs_here", "_law_rule_here", "_law_s", "_law_deeds", "_law_hand"] vs) H := by
  obtain ⟨lv, lp, lr, values, ps, r, rfl, hv, hp, hr, vl, pl, q⟩ := h
  obtain ⟨us, hlp, hus⟩ := hp
  unfold t_L_begun
  walk_at "q"
  refine s_asg_of (fun p hp => ?_)
  have l1 := (Lay.nil (Same.refl H)).snoc (o := .dK []) hp
  refine tp_cons ev_c (e_listOf (ev_var rfl) (.inl (l1.same.seq hv)) fun a1 h1 => ?_)
  have l2 := l1.snoc (o := .lst (values.map V.int)) h1
  refine tp_cons ev_c (ev_lenL (ev_var rfl) (l2.same.seq hv) _ ⟨_, rfl, ?_⟩)
  rw [List.length_map]
  refine ⟨.of_le (by omega) (by omega) (by omega) (by omega), fun a2 h2 => ?_⟩
  rw [rgV_nat]
  have l3 := l2.snoc (o := .lst ((List.range values.length).map natV)) h2
  refine tp_cons ev_c (ev_lenL (ev_var rfl) (l3.same.seq hv) _ ?_)
  rw [List.length_map]
  refine tp_cons ev_c (ev_c _ ?_)
  refine ⟨l3.get (i := 0) rfl, [(ks "values", .ref a1), (ks "links", .ref a2), (ks "top", .int values.length), (ks "count", .int 0)], rfl, by show 4 ≤ 15; decide, ?_⟩
  have em : mergeK [] [(ks "values", V.ref a1), (ks "links", .ref a2), (ks "top", .int values.length), (ks "count", .int 0)] = [(ks "values", V.ref a1), (ks "links", .ref a2), (ks "top", .int values.length), (ks "count", .int 0)] := by kernel_rfl
  rw [em]
  have l4 := l3.put (i := 0) (o' := .dK [(ks "values", V.ref a1), (ks "links", .ref a2), (ks "top", .int values.length), (ks "count", .int 0)]) rfl
  show ({ nx := _, rt := Q : Ends }).nx _ _
  generalize upd _ p _ = H4 at l4 ⊢
  clear l1 l2 l3 h1 h2
  walk_at "q"
  refine s_dnew (e_lst ea_nil (by show 0 ≤ 1000; decide) fun a3 h3 => ?_)
  have l5 := l4.snoc (o := .lst []) h3
  refine s_dput ev_c (ev_var rfl) (l5.get (i := 0) rfl) (by show 4 < 1000; decide) ?_
  have l6 := l5.put (i := 0) (o' := .dK (putK [(ks "values", V.ref a1), (ks "links", .ref a2), (ks "top", .int values.length), (ks "count", .int 0)] (ks "free") (.ref a3))) rfl
  generalize upd _ p _ = H6 at l6 ⊢
  clear l4 l5 h3
  walk_at "q"
  refine s_dnew (e_lst ea_nil (by show 0 ≤ 1000; decide) fun a4 h4 => ?_)
  have l7 := l6.snoc (o := .lst []) h4
  refine s_dput ev_c (ev_var rfl) (l7.get (i := 0) rfl) (by show (putK _ _ _).length < 1000; exact (by kernel_rfl : decide ((putK [(ks "values", V.ref a1), (ks "links", .ref a2), (ks "top", .int values.length), (ks "count", .int 0)] (ks "free") (.ref a3)).length < 1000) = true) |> of_decide_eq_true) ?_
  have e8 : putK (putK [(ks "values", V.ref a1), (ks "links", .ref a2), (ks "top", .int values.length), (ks "count", .int 0)] (ks "free") (.ref a3)) (ks "ends") (.ref a4) = [(ks "values", V.ref a1), (ks "links", .ref a2), (ks "top", .int values.length), (ks "count", .int 0), (ks "free", .ref a3), (ks "ends", .ref a4)] := by kernel_rfl
  rw [e8]
  have l8 := l7.put (i := 0) (o' := .dK [(ks "values", V.ref a1), (ks "links", .ref a2), (ks "top", .int values.length), (ks "count", .int 0), (ks "free", .ref a3), (ks "ends", .ref a4)]) rfl
  generalize upd _ p _ = H8 at l8 ⊢
  clear l6 l7 h4
  walk_at "q"
  refine s_dput ev_c (ev_var rfl) (l8.get (i := 0) rfl) (by show 6 < 1000; decide) ?_
  have e9 : putK [(ks "values", V.ref a1), (ks "links", .ref a2), (ks "top", .int values.length), (ks "count", .int 0), (ks "free", .ref a3), (ks "ends", .ref a4)] (ks "stale") (.bl false) = [(ks "values", V.ref a1), (ks "links", .ref a2), (ks "top", .int values.length), (ks "count", .int 0), (ks "free", .ref a3), (ks "ends", .ref a4), (ks "stale", .bl false)] := by kernel_rfl
  rw [e9]
  have l9 := l8.put (i := 0) (o' := .dK [(ks "values", V.ref a1), (ks "links", .ref a2), (ks "top", .int values.length), (ks "count", .int 0), (ks "free", .ref a3), (ks "ends", .ref a4), (ks "stale", .bl false)]) rfl
  generalize upd _ p _ = H9 at l9 ⊢
  clear l8
  walk_at "q"
  refine s_dput (ev_var rfl) (ev_var rfl) (l9.get (i := 0) rfl) (by show 7 < 1000; decide) ?_
  have e10 : putK [(ks "values", V.ref a1), (ks "links", .ref a2), (ks "top", .int values.length), (ks "count", .int 0), (ks "free", .ref a3), (ks "ends", .ref a4), (ks "stale", .bl false)] (ks "rule") (.ref lr) = [(ks "values", V.ref a1), (ks "links", .ref a2), (ks "top", .int values.length), (ks "count", .int 0), (ks "free", .ref a3), (ks "ends", .ref a4), (ks "stale", .bl false), (ks "rule", .ref lr)] := by kernel_rfl
  rw [e10]
  have lA := l9.put (i := 0) (o' := .dK [(ks "values", V.ref a1), (ks "links", .ref a2), (ks "top", .int values.length), (ks "count", .int 0), (ks "free", .ref a3), (ks "ends", .ref a4), (ks "stale", .bl false), (ks "rule", .ref lr)]) rfl
  generalize upd _ p _ = HA at lA ⊢
  clear l9
  walk_at "q"
  refine s_dnew (e_lst ea_nil (by show 0 ≤ 1000; decide) fun a5 h5 => ?_)
  have lB := lA.snoc (o := .lst []) h5
  refine s_dput ev_c (ev_var rfl) (lB.get (i := 0) rfl) (by show 8 < 1000; decide) ?_
  have e11 : putK [(ks "values", V.ref a1), (ks "links", .ref a2), (ks "top", .int values.length), (ks "count", .int 0), (ks "free", .ref a3), (ks "ends", .ref a4), (ks "stale", .bl false), (ks "rule", .ref lr)] (ks "hands") (.ref a5) = df ⟨p, a1, a2, a3, a4, a5, lr, []⟩ (M.begin_ values ps r) := by kernel_rfl
  rw [e11]
  have lC := lB.put (i := 0) (o' := .dK (df ⟨p, a1, a2, a3, a4, a5, lr, []⟩ (M.begin_ values ps r))) rfl
  generalize upd _ p _ = HC at lC ⊢
  clear lA lB h5
  have lC' : Lay H HC (s6 ⟨p, a1, a2, a3, a4, a5, lr, []⟩ (M.begin_ values ps r) ++ ([] : List DHA).flatMap two) := lC
  have ul := hus.length
  walk_at "q"
  refine s_forL (xs := us) (ev_var rfl) (SqL.of (lC.same _ _ hlp)) (fun i s' H' => ∃ (x y : Option V) (hs : List DHA), s' = [some (.ref lv), some (.ref lp), some (.ref lr), some (.ref p), x, y] ∧ hs.length = i ∧ (∀ (j : Nat) (a : DHA), hs[j]? = some a → us[j]? = some (.ref a.deeds)) ∧ Lay H H' (s6 ⟨p, a1, a2, a3, a4, a5, lr, hs⟩ (M.begin_ values ps r) ++ hs.flatMap two))
    ⟨none, none, [], rfl, rfl, fun j a h => (by cases h), lC'⟩ (fun i s' H' _ z => ?_) (fun i x s' H' hx z => ?_) (fun s' H' z => ?_)
  · obtain ⟨_, _, _, _, _, _, l⟩ := z
    exact SqL.of (l.same _ _ hlp)
  · obtain ⟨x0, y0, hs, rfl, hsl, hh, l⟩ := z
    obtain ⟨v, hv2, qd, ud, rfl, e3, e4⟩ : ∃ v, us[i]? = some v ∧ ∃ qd ud, v = .ref qd ∧ H qd = some (.lst ud) ∧ All2 (DeedAt H) ud (ps.getD i []) := by
      have hi : i < ps.length := by rw [← ul]; exact (List.getElem?_eq_some_iff.mp hx).1
      have hg : ps[i]? = some (ps.getD i []) := by
        rw [List.getD_eq_getElem?_getD, List.getElem?_eq_getElem hi]
        rfl
      obtain ⟨u, hu, q', us', e, h3, h4⟩ := hus.get i hg
      exact ⟨u, hu, q', us', e, h3, h4⟩
    rw [hx] at hv2
    cases hv2
    dsimp only [gName]
    walk_at "q"
    refine s_asg_of (fun pd hpd => ?_)
    have n1 := l.snoc (o := .dK []) hpd
    refine tp_cons ev_c (ev_var rfl _ (tp_cons ev_c (ev_c _ (tp_cons ev_c (ev_c _ (tp_cons ev_c (ev_c _ (tp_cons ev_c (ev_c _ (tp_cons ev_c (ev_c _ (tp_cons ev_c (ev_c _ ?_)))))))))))))
    refine ⟨upd_same, [(ks "deeds", .ref qd), (ks "at", .int 0), (ks "cell", .int 0), (ks "seen", .non), (ks "follow", .non), (ks "mark", .int 0), (ks "looked", .bl false)], rfl, by show 7 ≤ 15; decide, ?_⟩
    have em2 : mergeK [] [(ks "deeds", V.ref qd), (ks "at", .int 0), (ks "cell", .int 0), (ks "seen", .non), (ks "follow", .non), (ks "mark", .int 0), (ks "looked", .bl false)] = [(ks "deeds", V.ref qd), (ks "at", .int 0), (ks "cell", .int 0), (ks "seen", .non), (ks "follow", .non), (ks "mark", .int 0), (ks "looked", .bl false)] := by kernel_rfl
    rw [em2, upd_upd]
    have n2 := l.snoc (o := .dK [(ks "deeds", V.ref qd), (ks "at", .int 0), (ks "cell", .int 0), (ks "seen", .non), (ks "follow", .non), (ks "mark", .int 0), (ks "looked", .bl false)]) hpd
    have ll : (s6 ⟨p, a1, a2, a3, a4, a5, lr, hs⟩ (M.begin_ values ps r) ++ hs.flatMap two).length = 6 + 2 * i := by
      rw [List.length_append, two_len, hsl]
      rfl
    show ({ nx := _, rt := Q, bk := _, ct := _ : Ends }).nx _ _
    generalize upd H' pd _ = H2 at n2 ⊢
    clear n1
    dsimp only [gName]
    walk_at "q"
    refine s_dnew (e_lst ea_nil (by show 0 ≤ 1000; decide) fun ps1 hps1 => ?_)
    have n3 := n2.snoc (o := .lst []) hps1
    have g3 : ((s6 ⟨p, a1, a2, a3, a4, a5, lr, hs⟩ (M.begin_ values ps r) ++ hs.flatMap two) ++ [(pd, HO.dK [(ks "deeds", V.ref qd), (ks "at", .int 0), (ks "cell", .int 0), (ks "seen", .non), (ks "follow", .non), (ks "mark", .int 0), (ks "looked", .bl false)])] ++ [(ps1, HO.lst [])])[6 + 2 * i]? = some (pd, .dK [(ks "deeds", V.ref qd), (ks "at", .int 0), (ks "cell", .int 0), (ks "seen", .non), (ks "follow", .non), (ks "mark", .int 0), (ks "looked", .bl false)]) := by
      rw [← ll, List.append_assoc, List.getElem?_append_right (Nat.le_refl _), Nat.sub_self]
      rfl
    refine s_dput ev_c (ev_var rfl) (n3.get g3) (by show 7 < 1000; decide) ?_
    have e12 : putK [(ks "deeds", V.ref qd), (ks "at", .int 0), (ks "cell", .int 0), (ks "seen", .non), (ks "follow", .non), (ks "mark", .int 0), (ks "looked", .bl false)] (ks "said") (.ref ps1) = dhf ⟨pd, qd, ps1⟩ .non {} := by kernel_rfl
    rw [e12]
    have n4 := n3.put (o' := .dK (dhf ⟨pd, qd, ps1⟩ .non {})) g3
    have e13 : ((s6 ⟨p, a1, a2, a3, a4, a5, lr, hs⟩ (M.begin_ values ps r) ++ hs.flatMap two) ++ [(pd, HO.dK [(ks "deeds", V.ref qd), (ks "at", .int 0), (ks "cell", .int 0), (ks "seen", .non), (ks "follow", .non), (ks "mark", .int 0), (ks "looked", .bl false)])] ++ [(ps1, HO.lst [])]).set (6 + 2 * i) (pd, .dK (dhf (⟨pd, qd, ps1⟩ : DHA) .non {})) = s6 ⟨p, a1, a2, a3, a4, a5, lr, hs⟩ (M.begin_ values ps r) ++ (hs ++ [(⟨pd, qd, ps1⟩ : DHA)]).flatMap two := by
      rw [← ll, List.append_assoc, List.set_append_right _ _ (Nat.le_refl _), Nat.sub_self, List.append_assoc]
      congr 1
      rw [List.flatMap_append]
      rfl
    rw [e13] at n4
    generalize upd _ pd _ = H4 at n4 ⊢
    dsimp only
    have g5 : (s6 ⟨p, a1, a2, a3, a4, a5, lr, hs⟩ (M.begin_ values ps r) ++ (hs ++ [(⟨pd, qd, ps1⟩ : DHA)]).flatMap two)[5]? = some (a5, .lst (hs.map fun a => V.ref a.d)) := rfl
    have g0 : (s6 ⟨p, a1, a2, a3, a4, a5, lr, hs⟩ (M.begin_ values ps r) ++ (hs ++ [(⟨pd, qd, ps1⟩ : DHA)]).flatMap two)[0]? = some (p, .dK (df ⟨p, a1, a2, a3, a4, a5, lr, hs⟩ (M.begin_ values ps r))) := rfl
    have hi3 : i < 3 := by
      have := (List.getElem?_eq_some_iff.mp hx).1
      omega
    refine s_app (xs := hs.map fun a => V.ref a.d) (ev_dg (ev_var rfl) (n4.get g0) (df_hands _ _)) (n4.get g5) (ev_var rfl) (by rw [List.length_map, hsl]; exact Nat.lt_of_lt_of_le hi3 (by decide)) ?_
    have n5 := n4.put (o' := .lst ((hs.map fun a => V.ref a.d) ++ [.ref pd])) g5
    refine ⟨_, _, hs ++ [(⟨pd, qd, ps1⟩ : DHA)], rfl, by rw [List.length_append, hsl]; rfl, fun j a ha => ?_, ?_⟩
    · rcases snoc_get ha with z | ⟨z, e⟩
      · exact hh j a z
      · rw [z, hsl, e]
        exact hx
    · have e14 : (s6 ⟨p, a1, a2, a3, a4, a5, lr, hs⟩ (M.begin_ values ps r) ++ (hs ++ [(⟨pd, qd, ps1⟩ : DHA)]).flatMap two).set 5 (a5, .lst ((hs.map fun a => V.ref a.d) ++ [.ref pd])) = s6 ⟨p, a1, a2, a3, a4, a5, lr, hs ++ [(⟨pd, qd, ps1⟩ : DHA)]⟩ (M.begin_ values ps r) ++ (hs ++ [(⟨pd, qd, ps1⟩ : DHA)]).flatMap two := by
        have e15 : (hs ++ [(⟨pd, qd, ps1⟩ : DHA)]).map (fun a => V.ref a.d) = (hs.map fun a => V.ref a.d) ++ [.ref pd] := by rw [List.map_append]; rfl
        unfold s6
        rw [e15]
        rfl
      rw [e14] at n5
      exact n5
  · obtain ⟨x0, y0, hs, rfl, hsl, hh, l⟩ := z
    have hl : hs.length = ps.length := by rw [hsl, ul]
    obtain ⟨own, T⟩ := begun_at (A := ⟨p, a1, a2, a3, a4, a5, lr, hs⟩) l hr hl (fun i a ha => by
      have hi : i < ps.length := by rw [← hl]; exact (List.getElem?_eq_some_iff.mp ha).1
      have hg : ps[i]? = some (ps.getD i []) := by
        rw [List.getD_eq_getElem?_getD, List.getElem?_eq_getElem hi]
        rfl
      obtain ⟨u, hu, q', us', e, h3, h4⟩ := hus.get i hg
      have hu2 := hh i a ha
      rw [hu, e] at hu2
      have eq : q' = a.deeds := by
        have := Option.some.inj hu2
        exact V.ref.inj this
      rw [← eq]
      exact ⟨⟨_, h3⟩, us', l.same _ _ h3, h4.mono fun _ _ => DeedAt.mono fun b xs z => l.same _ _ z⟩)
    dsimp only
    refine s_ret (ev_var rfl) (q _ _ own (fun a ⟨i, b, hb, e⟩ => ⟨us, hlp, ?_⟩) T l.same)
    rw [e]
    exact List.mem_of_getElem? (hh i b hb)
end SS

set_option Elab.async false
set_option linter.all false
set_option maxRecDepth 100000
set_option maxHeartbeats 4000000
namespace SS
open PySem L2
local macro_rules | `(tactic| walk_at "q") => `(tactic| ((try dsimp only); refine s_seq ?_))
/-- a list, a tuple that is made on the way -/
theorem e_lcLX {K : PySem.W.Frag} {tl te : TE} {tt : TT} {g : TG} {ws : List Nat} {s : L2.St} {H : Hp} {Q : VK} (h : tl s H fun x H1 => ∃ a, x = .ref a ∧ tLc (iList K (tC (.ref a))) g tt te ws s H1 Q) : tLc (iList K tl) g tt te ws s H Q := by
  unfold tLc iList at *
  have e : ∀ R : Addr → Hp → Prop, (fun x H1 => ∃ a, x = V.ref a ∧ tC (V.ref a) s H1 fun x H1 => ∃ a, x = V.ref a ∧ (∃ xs, SqL K H1 a xs) ∧ R a H1) = fun x H1 => ∃ a, x = V.ref a ∧ (∃ xs, SqL K H1 a xs) ∧ R a H1 := by
    intro R
    funext x H1
    apply propext
    constructor
    · rintro ⟨a, rfl, b, eb, q⟩
      cases eb
      exact ⟨a, rfl, q⟩
    · rintro ⟨a, rfl, q⟩
      exact ⟨a, rfl, a, rfl, q⟩
  have e2 := e fun a H1 => ∀ D, H1 D = none → ∃ W : Nat → Nat → Hp → Prop, (∃ m, W 0 m (upd H1 D (.lst []))) ∧ ∀ i m H, W i m H → ((Itl K a).stop i H ∧ Q (.ref D) H) ∨ ((Itl K a).go i H ∧ ∃ Nx : Hp → Prop, (∀ H', Nx H' → ∃ m', m' < m ∧ W (i + 1) m' H') ∧ ∀ x H', (Itl K a).yld i H x H' → g x (wipe s ws) H' fun s2 H2 => wipe s2 ws = wipe s ws ∧ tt s2 H2 fun b H3 =>
    if b = true then te s2 H3 fun y H4 => ∃ acc, H4 D = some (.lst acc) ∧ acc.length < sizeLine ∧ Nx (upd H4 D (.lst (acc ++ [y]))) else Nx H3)
  rw [e2] at h
  exact h
theorem e_lcTX {K : PySem.W.Frag} {tl te : TE} {tt : TT} {g : TG} {ws : List Nat} {s : L2.St} {H : Hp} {Q : VK} (h : tl s H fun x H1 => ∃ a, x = .ref a ∧ tLc (iTup K (tC (.ref a))) g tt te ws s H1 Q) : tLc (iTup K tl) g tt te ws s H Q := by
  unfold tLc iTup at *
  have e : ∀ R : Addr → Hp → Prop, (fun x H1 => ∃ a, x = V.ref a ∧ tC (V.ref a) s H1 fun x H1 => ∃ a, x = V.ref a ∧ (∃ xs, SqT K H1 a xs) ∧ R a H1) = fun x H1 => ∃ a, x = V.ref a ∧ (∃ xs, SqT K H1 a xs) ∧ R a H1 := by
    intro R
    funext x H1
    apply propext
    constructor
    · rintro ⟨a, rfl, b, eb, q⟩
      cases eb
      exact ⟨a, rfl, q⟩
    · rintro ⟨a, rfl, q⟩
      exact ⟨a, rfl, a, rfl, q⟩
  have e2 := e fun a H1 => ∀ D, H1 D = none → ∃ W : Nat → Nat → Hp → Prop, (∃ m, W 0 m (upd H1 D (.lst []))) ∧ ∀ i m H, W i m H → ((Itt K a).stop i H ∧ Q (.ref D) H) ∨ ((Itt K a).go i H ∧ ∃ Nx : Hp → Prop, (∀ H', Nx H' → ∃ m', m' < m ∧ W (i + 1) m' H') ∧ ∀ x H', (Itt K a).yld i H x H' → g x (wipe s ws) H' fun s2 H2 => wipe s2 ws = wipe s ws ∧ tt s2 H2 fun b H3 =>
    if b = true then te s2 H3 fun y H4 => ∃ acc, H4 D = some (.lst acc) ∧ acc.length < sizeLine ∧ Nx (upd H4 D (.lst (acc ++ [y]))) else Nx H3)
  rw [e2] at h
  exact h

def upto (n : Nat) : List Int := (List.range n).map fun i => (1 : Int) + (i : Nat)
theorem rgV_upto (n : Nat) : rgV 1 ((n : Int) + 1) = (upto n).map V.int := by
  unfold rgV upto
  rw [List.map_map]
  have : ((n : Int) + 1 - 1).toNat = n := by omega
  rw [this]
  rfl
theorem t_rg2_of {ta tb : TE} {s : L2.St} {H : Hp} {Q : VK} {i : Int} (hi : Ev ta s H (.int i)) (h : tb s H fun y H2 => ∃ j, y = .int j ∧ RgOk i j ∧ ∀ q, H2 q = none → Q (.ref q) (upd H2 q (.lst (rgV i j)))) : tLstRg (tRg2 ta tb) s H Q := by
  refine hi _ ?_
  have e : (fun (y : V) (H2 : Hp) => ∃ j, y = .int j ∧ RgOk i j ∧ ∀ q, H2 q = none → Q (.ref q) (upd H2 q (.lst (rgV i j)))) = fun (y : V) (H2 : Hp) => ∃ i' j, V.int i = .int i' ∧ y = .int j ∧ RgOk i' j ∧ ∀ q, H2 q = none → Q (.ref q) (upd H2 q (.lst (rgV i' j))) := by
    funext y H2
    apply propext
    constructor
    · rintro ⟨j, e1, e2⟩
      exact ⟨i, j, rfl, e1, e2⟩
    · rintro ⟨i', j, e0, e1, e2⟩
      cases e0
      exact ⟨j, e1, e2⟩
  rw [e] at h
  exact h
theorem t_not_of' {t : TT} {s : L2.St} {H : Hp} {Q : Bool → Hp → Prop} (h : t s H fun c H1 => Q (!c) H1) : tNot t s H Q := h
/-! ### the package's machine and the law's own, apart -/
structure TwoD (Z : Cs) (H0 H : Hp) (A : MA) (B : DA) (m n : M) : Prop where
  s : Same H0 H
  a : MachAt Z H A m
  b : DMachAt H B n
structure ApartD (H0 : Hp) (A : MA) (B : DA) : Prop where
  fa : ∀ a, A.owns a → H0 a = none
  fb : ∀ a, B.owns a → H0 a = none
  n : ∀ a, A.owns a → ¬ B.owns a
  rd : ∀ a, B.reads a → H0 a ≠ none
theorem TwoD.same {Z : Cs} {H0 H H' : Hp} {A : MA} {B : DA} {m n : M} (t : TwoD Z H0 H A B m n) (c : Same H H') : TwoD Z H0 H' A B m n := ⟨Same.trans t.s c, t.a.same c, t.b.same c⟩
theorem TwoD.new {Z : Cs} {H0 H : Hp} {A : MA} {B : DA} {m n : M} (t : TwoD Z H0 H A B m n) {p : Addr} {o : HO} (h : H p = none) : TwoD Z H0 (upd H p o) A B m n := t.same (Same.new h)
theorem TwoD.turnA {Z : Cs} {H0 H H' : Hp} {A : MA} {B : DA} {m n m' : M} (t : TwoD Z H0 H A B m n) (p : ApartD H0 A B) (T : MachAt Z H' A m') (c : Chg A.owns H H') : TwoD Z H0 H' A B m' n := ⟨same_own t.s c p.fa, T, t.b.chg c (fun a hb ha => p.n a ha hb) fun a hr ha => p.rd a hr (p.fa a ha)⟩
theorem TwoD.turnB {Z : Cs} {H0 H H' : Hp} {A : MA} {B : DA} {m n n' : M} (t : TwoD Z H0 H A B m n) (p : ApartD H0 A B) (T : DMachAt H' B n') (c : Chg B.owns H H') : TwoD Z H0 H' A B m n' := ⟨same_own t.s c p.fb, t.a.chg c fun a ha hb => p.n a ha hb, T⟩
theorem apartD_of {Z : Cs} {H0 H1 : Hp} {A : MA} {B : DA} {m : M} (s : Same H0 H1) (fa : ∀ a, A.owns a → H0 a = none) (T : MachAt Z H1 A m) (fb : ∀ a, B.owns a → H1 a = none) (rd : ∀ a, B.reads a → H0 a ≠ none) : ApartD H0 A B :=
  ⟨fa, fun a h => free_of s (fb a h), fun a ha hb => (by
    obtain ⟨r, hr⟩ := ha
    obtain ⟨o, ho, _⟩ := T.at_ r a hr
    rw [fb a hb] at ho
    cases ho), rd⟩
theorem pg_there {H : Hp} {lp : Addr} {ps : List (List Deed)} (h : PgAt H lp ps) {us : List V} (hl : H lp = some (.lst us)) {a : Addr} (ha : .ref a ∈ us) : H a ≠ none := by
  obtain ⟨us', h1, h2⟩ := h
  rw [hl] at h1
  cases h1
  obtain ⟨i, hi⟩ := List.mem_iff_getElem?.mp ha
  have hlen := h2.length
  have hi2 : i < ps.length := by rw [← hlen]; exact (List.getElem?_eq_some_iff.mp hi).1
  obtain ⟨u, hu, q, rs, e, h3, _⟩ := h2.get i (List.getElem?_eq_getElem hi2)
  rw [hi] at hu
  cases hu
  have e' : a = q := V.ref.inj e
  subst e'
  rw [h3]
  exact fun z => by cases z
/-- [s["values"][cell - 1] for cell in _law_pile(s)] -/
theorem e_dvalues {Z : Cs} {H : Hp} {B : DA} {m : M} {s : L2.St} {Q : VK} {n k : Nat} (T : DMachAt H B m) (ok : PileOk m) (h7 : s[n]? = some (some (.ref B.s))) (hk : k < s.length) (nk : n ≠ k) (q : ∀ D H', H D = none → Same H H' → H' D = some (.lst (m.pileValues.map V.int)) → Q (.ref D) H') :
    tLc (iList Z.K (tCall (sp_L_pile Z) [] E0 (tCons (tVar n) tNil))) (gName k) tYes (tOp (rIxL Z.K) (tDGet (tVar n) (tC (.str "values"))) (tOp rSubI (tVar k) (tC (.int 1)))) [k] s H Q := by
  refine e_lcLX (s_call (ea_cons (ev_var h7) ea_nil) ⟨B, m, rfl, T, ok, fun l H1 hl c1 eL => ⟨l, rfl, ?_⟩⟩)
  have T1 := T.same c1
  have hw : (wipe s [k])[n]? = some (some (.ref B.s)) := by rw [wipe_out (by simpa using nk)]; exact h7
  have pin := pileFrom_ok m.links (fun c hc => ok.links c hc) (m.links.length + 1) [] m.top (fun x hx => by cases hx) ok.top
  have plen := pile_len m ok
  refine e_lcL ev_c (SqL.of eL) (fun D i H' => Same H1 H' ∧ H' D = some (.lst (((m.pile.take i).map fun c => m.worths.getD (c - 1) 0).map V.int))) (fun D hD => ⟨Same.new hD, upd_same⟩) (fun D i H' _ _ p => SqL.of (p.1 _ _ eL)) (fun D i x H' hx hD p => ?_) (fun D H' hD p => ?_)
  · obtain ⟨c, hc, rfl⟩ := map_get hx
    have hi : i < m.pile.length := (List.getElem?_eq_some_iff.mp hc).1
    have T2 := T1.same p.1
    obtain ⟨p1, p2⟩ : 1 ≤ c ∧ c ≤ m.links.length := pin c (List.mem_of_getElem? hc)
    have hv : (m.worths.map V.int)[c - 1]? = some (V.int (m.worths.getD (c - 1) 0)) := by
      rw [List.getElem?_map, List.getD_eq_getElem?_getD, List.getElem?_eq_getElem (by have := ok.ll; omega)]
      rfl
    have gk : ((wipe s [k]).set k (some (natV c)))[k]? = some (some (natV c)) := by rw [List.getElem?_set_self (by rw [wipe_length]; exact hk)]
    have gn : ((wipe s [k]).set k (some (natV c)))[n]? = some (some (.ref B.s)) := by rw [List.getElem?_set_ne (fun z => nk z.symm)]; exact hw
    refine ⟨by simp only [wipe, List.set_set], et_yes _ (iteT (ev_ixL (dm_values T2 (ev_var gn)) (ev_sub (ev_var gk) ev_c) (SqL.of T2.valuesL) (atI_pred p1 hv) _ ⟨_, p.2, ?_, same_newer p.1 hD, ?_⟩))⟩
    · rw [List.length_map, List.length_map, List.length_take]
      exact Nat.lt_of_le_of_lt (Nat.min_le_right _ _) (Nat.lt_of_le_of_lt plen (by decide))
    · rw [upd_same, take_snoc hc, List.map_append, List.map_append]
      rfl
  · refine q D H' (free_of c1 hD) (Same.trans c1 p.1) ?_
    rw [p.2, List.length_map, List.take_length]
    rfl
/-- [own["cell"] for own in s["hands"] if own["cell"] > 0] -/
theorem e_held {Z : Cs} {H : Hp} {B : DA} {m : M} {s : L2.St} {Q : VK} {n k : Nat} (T : DMachAt H B m) (hn : m.hands.length ≤ 1000) (h7 : s[n]? = some (some (.ref B.s))) (hk : k < s.length) (q : ∀ D H', H D = none → Same H H' → H' D = some (.lst (m.heldL.map natV)) → Q (.ref D) H') :
    tLc (iList Z.K (tDGet (tVar n) (tC (.str "hands")))) (gName k) (tTest (tOp rGtI (tDGet (tVar k) (tC (.str "cell"))) (tC (.int 0)))) (tDGet (tVar k) (tC (.str "cell"))) [k] s H Q := by
  refine e_lcL (dm_hands T (ev_var h7)) (SqL.of T.handsLL) (fun D i H' => Same H H' ∧ H' D = some (.lst ((((m.hands.take i).map (·.cell)).filter fun c => decide (0 < c)).map natV)))
    (fun D hD => ⟨Same.new hD, upd_same⟩) (fun D i H' _ _ p => SqL.of (T.same p.1).handsLL) (fun D i x H' hx hD p => ?_) (fun D H' hD p => ?_)
  · obtain ⟨b, hb, rfl⟩ := map_get hx
    have T' := T.same p.1
    obtain ⟨sv, O, S⟩ := T'.handO hb
    have hi := T'.len hb
    have eq : m.hands[i]? = some (m.hd i) := by
      unfold M.hd
      rw [List.getD_eq_getElem?_getD, List.getElem?_eq_getElem hi]
      rfl
    have gk : ((wipe s [k]).set k (some (V.ref b.d)))[k]? = some (some (V.ref b.d)) := by rw [List.getElem?_set_self (by rw [wipe_length]; exact hk)]
    refine ⟨by simp only [wipe, List.set_set], ?_⟩
    refine et_test (ev_gt (dh_cell O (ev_var gk)) ev_c) _ ?_
    have eg : decide ((0 : Int) < ((m.hd i).cell : Nat)) = decide (0 < (m.hd i).cell) := decide_eq_decide.mpr ⟨fun z => by omega, fun z => by omega⟩
    rw [eg]
    by_cases e : 0 < (m.hd i).cell
    · rw [decide_eq_true e]
      refine iteT (dh_cell O (ev_var gk) _ ⟨_, p.2, ?_, same_newer p.1 hD, ?_⟩)
      · rw [List.length_map]
        refine Nat.lt_of_le_of_lt (List.length_filter_le _ _) ?_
        rw [List.length_map, List.length_take]
        exact Nat.lt_of_le_of_lt (Nat.min_le_left _ _) (Nat.lt_of_lt_of_le (Nat.lt_of_lt_of_le hi hn) (by decide))
      · rw [upd_same, take_snoc eq, List.map_append, List.filter_append]
        simp [e]
    · rw [decide_eq_false e]
      refine iteF ⟨p.1, ?_⟩
      rw [p.2, take_snoc eq, List.map_append, List.filter_append]
      simp [e]
  · refine q D H' hD p.1 ?_
    rw [p.2, List.length_map, T.hs, List.take_length]
    rfl
end SS

set_option Elab.async false
set_option linter.all false
set_option maxRecDepth 100000
set_option maxHeartbeats 4000000
namespace SS
open PySem L2
local macro_rules | `(tactic| walk_at "q") => `(tactic| ((try dsimp only); refine s_seq ?_))

theorem tell_rests {m : M} {h : Nat} (ha : (m.hd h).at_ ≤ (m.prog h).length) (hr : m.rests h = false) : (m.turn h).1 ≠ .rests := by
  intro e
  have mv := move m h
  rw [e] at mv
  generalize m.step h = m' at mv
  cases mv with
  | rests hd =>
    unfold M.rests at hr
    have hl := List.getElem?_eq_none_iff.mp hd
    have : (m.hd h).at_ ≠ (m.prog h).length := by simpa using hr
    omega
theorem rests_ne {t : Tell} (h : t ≠ .rests) : PyData.eqv (tellD t) (tellD .rests) = false := by
  cases t with
  | rests => exact absurd rfl h
  | misses => kernel_rfl
  | looks b => kernel_rfl
  | takes c => kernel_rfl
  | ends c => kernel_rfl
  | links c => kernel_rfl
  | marks c => kernel_rfl
  | reads c => kernel_rfl
  | follows c => kernel_rfl
  | exchanges c => kernel_rfl
theorem finish_same {ps : List (List Deed)} {r : Rule} : ∀ {n n' : Nat} {m : M}, Fine ps r m → m.mu < n → m.mu < n' → M.finish n m = M.finish n' m
  | 0, _, _, _, h, _ => by omega
  | _, 0, _, _, _, h => by omega
  | n + 1, n' + 1, m, f, h, h' => by
    cases e : m.isDone with
    | true => rw [finish_done e, finish_done e]
    | false =>
      rw [finish_step e, finish_step e]
      have := f.round_lt e
      exact finish_same f.round (by omega) (by omega)
/-- all that whole tells -/
def wholeD (m : M) : PyData := .tuple [.list (m.hands.map saidD), orderD m, .list (m.pileValues.map PyData.int), .bool m.strayed]
def sp_L_due (Z : Cs) : Sp := fun vs H Q _ => ∃ (lv lp lr lw : Addr) (values : List Int) (ps : List (List Deed)) (r : Rule) (w : List Nat), vs = [.ref lv, .ref lp, .ref lr, .ref lw] ∧ SqL Z.K H lv (values.map V.int) ∧ PgAt H lp ps ∧ RuleAt H lr r ∧ okIn values ps r ∧
  SqL Z.K H lw (w.map natV) ∧ (∀ h ∈ w, h < ps.length) ∧ ∀ v H', Same H H' → Dp Z.K H' v (wholeD (wholeM values ps r w)) → Q v H'
/-- _law_due: 0 _law_values_here, 1 _law_programs_here, 2 _law_rule_here, 3 _law_weaving_here, 4 _law_s, 5 _law_hand, 6 _law_more, 7 _law_left, 8 _law_cell_here, 9 _law_own -/
def t_L_due (Z : Cs) : TS :=
  tSeq (tAsg (tCall (sp_L_begun Z) [] E0 (tCons (tVar 0) (tCons (tVar 1) (tCons (tVar 2) tNil)))) (gName 4))
    (tSeq (tFor (iList Z.K (tVar 3)) (gName 5) ((tDrop (tCall (sp_L_turn Z) [] E0 (tCons (tVar 4) (tCons (tVar 5) tNil))))))
    (tSeq (tAsg (tC (.bl true)) (gName 6))
    (tSeq (tWhile (tB (tVar 6)) (tSeq (tAsg (tC (.bl false)) (gName 6))
    ((tFor (iRng1 (tCons (tCB (rLen1 Z.K) (tCons (tVar 1) tNil)) tNil)) (gName 5) ((tAsg (tOrV (tOp (rNeD Z.K) (tCall (sp_L_turn Z) [] E0 (tCons (tVar 4) (tCons (tVar 5) tNil))) (tTup (tCons (tC (.str "rests")) tNil))) (tVar 6)) (gName 6)))))))
    (tSeq (tAsg (tLc (iList Z.K (tCall (sp_L_pile Z) [] E0 (tCons (tVar 4) tNil))) (gName 8) tYes (tOp (rIxL Z.K) (tDGet (tVar 4) (tC (.str "values"))) (tOp rSubI (tVar 8) (tC (.int 1)))) [8]) (gName 7))
    ((tRet (tTup (tCons (tLc (iList Z.K (tDGet (tVar 4) (tC (.str "hands")))) (gName 9) tYes (tDGet (tVar 9) (tC (.str "said"))) [9]) (tCons (tDGet (tVar 4) (tC (.str "ends"))) (tCons (tVar 7) (tCons (tDGet (tVar 4) (tC (.str "stale"))) tNil)))))))))))

theorem pure_L_due {Z : Cs} (vs : List V) (H : Hp) (Q : VK) (E : XK) (h : sp_L_due Z vs H Q E) : t_L_due Z { nx := fun _ H' => Q .non H', rt := Q } (start ["_law_values_here", "_law_programs_here", "_law_rule_here", "_law_weaving_here", "_law_s", "_law_hand", "_law_more", "_law_left", "_law_cell_here", "_law_own"] vs) H := by
  obtain ⟨lv, lp, lr, lw, values, ps, r, w, rfl, hv, hp, hr, ok, hw, hh, q⟩ := h
  have f0 : Fine ps r (M.begin_ values ps r) := Fine.begin_ ok
  unfold t_L_due
  walk_at "q"
  refine s_asg_of (s_call (ea_cons (ev_var rfl) (ea_cons (ev_var rfl) (ea_cons (ev_var rfl) ea_nil))) ⟨lv, lp, lr, values, ps, r, rfl, hv, hp, hr, ok.vlen, ok.plen.2, fun B H1 own rd T c1 => ?_⟩)
  show ({ nx := _, rt := Q : Ends }).nx _ _
  have fw : ∀ {H' H2 : Hp} {m : M}, Same H H' → DMachAt H2 B m → Chg B.owns H' H2 → Same H H2 := fun c _ C => same_own c C own
  generalize em : M.begin_ values ps r = m0 at *
  walk_at "q"
  refine s_forL (xs := w.map natV) (ev_var rfl) (Same.seq c1 hw) (fun i s' H' => ∃ x : Option V, s' = [some (.ref lv), some (.ref lp), some (.ref lr), some (.ref lw), some (.ref B.s), x, none, none, none, none] ∧ Same H H' ∧ DMachAt H' B (m0.run (w.take i)))
    ⟨none, rfl, c1, T⟩ (fun i s' H' _ p => by obtain ⟨_, _, c, _⟩ := p; exact Same.seq c hw) (fun i x s' H' hx p => ?_) (fun s' H' p => ?_)
  · obtain ⟨x0, rfl, c, T⟩ := p
    obtain ⟨h, hwi, rfl⟩ := map_get hx
    have hlt := hh h (List.mem_of_getElem? hwi)
    have f : Fine ps r (m0.run (w.take i)) := f0.run fun x hx => hh x (List.mem_of_mem_take hx)
    have en : m0.run (w.take (i + 1)) = (m0.run (w.take i)).step h := by rw [take_snoc hwi, run_snoc]
    dsimp only [gName]
    refine s_drop' (s_call (ea_cons (ev_var rfl) (ea_cons (ev_var rfl) ea_nil)) ⟨B, _, h, rfl, T, f.wf, by rw [f.hn]; exact hlt, fun H2 v T2 C2 _ => ?_⟩)
    rw [en]
    exact ⟨_, rfl, fw c T2 C2, T2⟩
  obtain ⟨x0, rfl, c, T⟩ := p
  rw [List.length_map, List.take_length] at T
  have fW : Fine ps r (m0.run w) := f0.run hh
  have eW : M.finish 1000 (m0.run w) = wholeM values ps r w := by unfold wholeM; rw [em]
  generalize wholeM values ps r w = W at eW q
  generalize m0.run w = mw at T fW eW
  walk_at "q"
  refine s_asg ev_c ?_
  walk_at "q"
  refine s_whileN (fun n s' H' => ∃ (x : Option V) (b : Bool) (m : M), s' = [some (.ref lv), some (.ref lp), some (.ref lr), some (.ref lw), some (.ref B.s), x, some (.bl b), none, none, none] ∧ Same H H' ∧ DMachAt H' B m ∧ Fine ps r m ∧ M.finish 1000 m = W ∧ (b = false → m.isDone = true) ∧ n = if b = true then m.mu + 1 else 0)
    ⟨_, _, true, mw, rfl, c, T, fW, eW, (fun e => by cases e), rfl⟩ (fun n s' H' p => ?_) (fun s' H' R R' hRR h => ?_)
  · obtain ⟨x, b, m, rfl, c, T, f, eF, hd, hn⟩ := p
    refine t_B_of (ev_var rfl _ ⟨b, rfl, ?_⟩)
    cases b with
    | true =>
      refine iteT ?_
      rw [if_pos rfl] at hn
      have hl := f.hn
      walk_at "q"
      refine s_asg ev_c ?_
      have hpl : ∀ H', Same H H' → ∀ s : L2.St, s[1]? = some (some (.ref lp)) → Ev (tCB (rLen1 Z.K) (tCons (tVar 1) tNil)) s H' (.int ps.length) := fun H' c s e => ev_lenP (hp.same c) e
      refine s_forR (n := ps.length) (hpl _ c _ rfl) (by have := ok.plen; omega) (fun i s' H' => ∃ (x : Option V) (b : Bool) (m' : M), s' = [some (.ref lv), some (.ref lp), some (.ref lr), some (.ref lw), some (.ref B.s), x, some (.bl b), none, none, none] ∧ Same H H' ∧ DMachAt H' B m' ∧ m' = m.run (List.range i) ∧ Fine ps r m' ∧ ((b = false ∧ m' = m ∧ ∀ j, j < i → m.rests j = true) ∨ (b = true ∧ m'.mu < m.mu)))
        ⟨_, false, m, rfl, c, T, rfl, f, .inl ⟨rfl, rfl, fun j h => by omega⟩⟩ (fun i s' H' hi p => ?_) (fun s' H' p => ?_)
      · obtain ⟨x, b, m', rfl, c, T, em', f', hb⟩ := p
        have hi' : i < m'.hands.length := by rw [f'.hn]; exact hi
        dsimp only [gName]
        have er : m.run (List.range (i + 1)) = (m.run (List.range i)).step i := by rw [List.range_succ, run_snoc]
        rw [← em'] at er
        refine s_asg_of (s_call (ea_cons (ev_var rfl) (ea_cons (ev_var rfl) ea_nil)) ⟨B, m', i, rfl, T, f'.wf, hi', fun H2 v T2 C2 t2 => ?_⟩)
        have c2 := fw c T2 C2
        refine e_tup (ea_cons ev_c ea_nil) (by show 1 ≤ 1000; decide) fun p1 hp1 => ?_
        have k1 : Same H2 (upd H2 p1 (.tup [.str "rests"])) := Same.new hp1
        refine ⟨tellD (m'.turn i).1, tellD .rests, dp_same k1 _ _ t2.dp, .tup (SqT.of upd_same) (.cons (.str _) .nil), (okD_tell _).shaped (by decide), (okD_tell .rests).shaped (by decide), ⟨_, rfl, ?_⟩⟩
        have T3 := T2.same k1
        have c3 := Same.trans c2 k1
        have f3 := f'.step hi
        generalize upd H2 p1 (.tup [.str "rests"]) = H3 at T3 c3 ⊢
        cases e : m'.rests i with
        | true =>
          have et : (m'.turn i) = (.rests, m') := step_rests e
          rw [et] at T3 ⊢
          have es : m'.step i = m' := by unfold M.step; rw [et]
          rw [SeqAt.eqv_refl _ (okD_tell .rests).1]
          refine (ev_var (v := .bl b) rfl : Ev (tVar 6) _ _ _) _ ?_
          refine ⟨_, b, m', rfl, c3, T3, by rw [er, es], f', ?_⟩
          rcases hb with ⟨h1, h2, h3⟩ | h
          · refine .inl ⟨h1, h2, fun j hj => ?_⟩
            by_cases ej : j < i
            · exact h3 j ej
            · have : j = i := by omega
              subst this
              rw [← h2]
              exact e
          · exact .inr h
        | false =>
          rw [rests_ne (tell_rests (f'.hand i).at_ e)]
          have lt := f'.good.mu_lt hi' (by rw [f'.hn]; exact f'.plen) e
          refine ⟨_, true, m'.step i, rfl, c3, T3, er.symm, f3, .inr ⟨rfl, ?_⟩⟩
          rcases hb with ⟨_, h2, _⟩ | ⟨_, h⟩
          · rw [← h2]
            exact lt
          · omega
      · obtain ⟨x, b, m', rfl, c, T, em', f', hb⟩ := p
        have er : m' = m.round := by unfold M.round; rw [em', hl]
        rcases hb with ⟨h1, h2, h3⟩ | ⟨h1, h2⟩
        · subst h1
          have hdone : m.isDone = true := by
            unfold M.isDone
            rw [List.all_eq_true]
            intro j hj
            rw [List.mem_range, hl] at hj
            exact h3 j hj
          exact ⟨0, by omega, _, false, m', rfl, c, T, f', by rw [h2]; exact eF, fun _ => by rw [h2]; exact hdone, rfl⟩
        · subst h1
          refine ⟨m'.mu + 1, by omega, _, true, m', rfl, c, T, f', ?_, (fun e => by cases e), rfl⟩
          have nd : m.isDone = false := by
            cases e : m.isDone with
            | false => rfl
            | true =>
              exfalso
              have g1 := finish_done e 1000
              have : m.round = m := by
                have go : ∀ l : List Nat, (∀ j ∈ l, j < m.hands.length) → m.run l = m := by
                  intro l
                  induction l with
                  | nil => intro _; rfl
                  | cons j l ih =>
                    intro hj
                    have hr : m.rests j = true := by
                      unfold M.isDone at e
                      rw [List.all_eq_true] at e
                      exact e j (List.mem_range.mpr (hj j List.mem_cons_self))
                    have es : m.step j = m := by unfold M.step; rw [step_rests hr]
                    show (m.step j).run l = m
                    rw [es]
                    exact ih fun x hx => hj x (List.mem_cons_of_mem _ hx)
                exact go _ fun j hj => List.mem_range.mp hj
              rw [er, this] at h2
              omega
          rw [er, ← eF]
          have mu1 := f.mu_le
          have mu2 := f.round_lt nd
          have e1 : M.finish 1000 m = M.finish 999 m.round := finish_step (n := 999) nd
          rw [e1]
          exact finish_same f.round (by omega) (by omega)
    | false =>
      refine iteF ?_
      have hdone := hd rfl
      have eM : m = W := by rw [← eF]; exact (finish_done hdone 1000).symm
      subst eM
      have hn3 := f.hn
      have p3 := ok.plen
      walk_at "q"
      refine s_asg_of (e_dvalues T f.pile rfl (by show 8 < 10; decide) (by decide) fun lg HG hg kG eG => ?_)
      have TG := T.same kG
      have cG := Same.trans c kG
      dsimp only [gName]
      refine s_ret_of (t_tup_of (t_cons_of (e_lcL (dm_hands TG (ev_var rfl)) (SqL.of TG.handsLL) (fun D i H' => Same HG H' ∧ ∃ as : List Addr, H' D = some (.lst (as.map V.ref)) ∧ All2 (fun (a : Addr) (x : Hd) => HG a = some (.lst (x.said.map ansV))) as (m.hands.take i))
        (fun D hD => ⟨Same.new hD, [], upd_same, by rw [List.take_zero]; exact .nil⟩) (fun D i H' _ _ p => SqL.of (TG.same p.1).handsLL) (fun D i x H' hx hD p => ?_) (fun D H' hD p => ?_))))
      · obtain ⟨b, hb, rfl⟩ := map_get hx
        obtain ⟨c4, as, hL, ha⟩ := p
        have T4 := TG.same c4
        obtain ⟨sv, O, S⟩ := T4.handO hb
        have hi := T4.len hb
        have eq : m.hands[i]? = some (m.hd i) := by
          unfold M.hd
          rw [List.getD_eq_getElem?_getD, List.getElem?_eq_getElem hi]
          rfl
        have hal := ha.length
        rw [List.length_take] at hal
        refine ⟨rfl, et_yes _ (iteT (dh_said O (ev_var rfl) _ ⟨_, hL, ?_, same_newer c4 hD, as ++ [b.said], ?_, ?_⟩))⟩
        · rw [List.length_map]
          exact Nat.lt_of_le_of_lt (by omega : _ ≤ 3) (by decide)
        · rw [upd_same, List.map_append]
          rfl
        · rw [take_snoc eq]
          exact All2.snoc (R := fun (a : Addr) (x : Hd) => HG a = some (.lst (x.said.map ansV))) (TG.saidL hb) ha
      · obtain ⟨c4, as, hL, ha⟩ := p
        rw [List.length_map, TG.hs, List.take_length] at ha
        have T4 := TG.same c4
        obtain ⟨ue, he, hue⟩ := T4.endsL
        refine t_cons_of (dm_ends T4 (ev_var rfl) _ (t_cons_of (ev_var rfl _ (t_cons_of (dm_stale T4 (ev_var rfl) _ ⟨by show 4 ≤ sizeLine; decide, fun p5 hp5 => ?_⟩)))))
        have k5 : Same H' (upd H' p5 (.tup [.ref D, .ref B.ends, .ref lg, .bl m.strayed])) := Same.new hp5
        refine q _ _ (Same.trans cG (Same.trans c4 k5)) (.tup (SqT.of upd_same) (.cons (.lst (SqL.of (k5 _ _ hL)) (saidsDp (ha.mono fun _ _ e => k5 _ _ (c4 _ _ e)))) (.cons (orderDp (k5 _ _ he) (hue.mono fun _ _ => PairAt.mono fun b xs e => k5 _ _ e)) (.cons (.lst (SqL.of (k5 _ _ (c4 _ _ eG))) (dp_ints _)) (.cons (.bl _) .nil)))))
  · obtain ⟨v, hv, k, ek, hR⟩ := h
    exact ⟨v, hv, k, ek, hRR _ _ hR⟩
end SS

set_option Elab.async false
set_option linter.all false
set_option maxRecDepth 100000
set_option maxHeartbeats 4000000
namespace SS
open PySem L2
local macro_rules | `(tactic| walk_at "q") => `(tactic| ((try dsimp only); refine s_seq ?_))

/-- no list too long -/
inductive Small : PyData → Prop
  | none : Small .none
  | bool (b : Bool) : Small (.bool b)
  | int (i : Int) : Small (.int i)
  | str (x : Str) : Small (.str x)
  | list {ds : List PyData} : ds.length ≤ 1000000 → (∀ d ∈ ds, Small d) → Small (.list ds)
  | tuple {ds : List PyData} : ds.length ≤ 1000000 → (∀ d ∈ ds, Small d) → Small (.tuple ds)
def sp_L_like (Z : Cs) (n : Nat) : Sp := fun vs H Q _ => ∃ (x y : V) (d : PyData), vs = [x, y] ∧ Dp Z.K H x d ∧ Dp Z.K H y d ∧ d.canLay0 = true ∧ d.depth < n ∧ n ≤ 60 ∧ Small d ∧ Q (.bl true) H
theorem len_L_like {Z : Cs} {n : Nat} {vs : List V} {H : Hp} {Q : VK} {E : XK} (h : sp_L_like Z n vs H Q E) : vs.length = 2 := by
  obtain ⟨_, _, _, rfl, _⟩ := h
  rfl
/-- _law_like: 0 _law_found, 1 _law_due, 2 _law_key, 3 _law_k -/
def t_L_like (Z : Cs) (n : Nat) : TS :=
  tSeq (tIfS (tB (tCB (rIsi Z.K) (tCons (tVar 1) (tCons (tC (.ty "bool")) tNil)))) ((tRet (tAndV (tCB (rIsi Z.K) (tCons (tVar 0) (tCons (tC (.ty "bool")) tNil))) (tOp (rEqD Z.K) (tVar 0) (tVar 1))))) (tNext))
    (tSeq (tIfS (tB (tCB (rIsi Z.K) (tCons (tVar 1) (tCons (tC (.ty "str")) tNil)))) ((tRet (tAndV (tCB (rIsi Z.K) (tCons (tVar 0) (tCons (tC (.ty "str")) tNil))) (tOp (rEqD Z.K) (tVar 0) (tVar 1))))) (tNext))
    (tSeq (tIfS (tB (tCB (rIsi Z.K) (tCons (tVar 1) (tCons (tC (.ty "int")) tNil)))) ((tRet (tAndV (tCB (rIsi Z.K) (tCons (tVar 0) (tCons (tC (.ty "int")) tNil))) (tAndV (tNotV (tCB (rIsi Z.K) (tCons (tVar 0) (tCons (tC (.ty "bool")) tNil)))) (tOp (rEqD Z.K) (tVar 0) (tVar 1)))))) (tNext))
    (tSeq (tIfS (tTest (tOp rIsN (tVar 1) (tC .non))) ((tRet (tOp rIsN (tVar 0) (tC .non)))) (tNext))
    (tSeq (tIfS (tB (tCB (rIsi Z.K) (tCons (tVar 1) (tCons (tC (.ty "dict")) tNil)))) (tSeq tNever tNever) (tNext))
    (tSeq (tIfS ((tOr (tTest (tOp rNe (tCB (rIsi Z.K) (tCons (tVar 1) (tCons (tC (.ty "tuple")) tNil))) (tCB (rIsi Z.K) (tCons (tVar 0) (tCons (tC (.ty "tuple")) tNil))))) (tTest (tOp rNe (tCB (rIsi Z.K) (tCons (tVar 1) (tCons (tC (.ty "list")) tNil))) (tCB (rIsi Z.K) (tCons (tVar 0) (tCons (tC (.ty "list")) tNil))))))) ((tRet (tC (.bl false)))) (tNext))
    (tSeq (tIfS (tTest (tOp rNe (tCB (rLen1 Z.K) (tCons (tVar 0) tNil)) (tCB (rLen1 Z.K) (tCons (tVar 1) tNil)))) ((tRet (tC (.bl false)))) (tNext))
    (tSeq (tFor (iRng1 (tCons (tCB (rLen1 Z.K) (tCons (tVar 1) tNil)) tNil)) (gName 3) ((tIfS (tNot (tB (tCall (sp_L_like Z n) [] E0 (tCons (tOp (rIx Z.K) (tVar 0) (tVar 3)) (tCons (tOp (rIx Z.K) (tVar 1) (tVar 3)) tNil))))) ((tRet (tC (.bl false)))) (tNext))))
    ((tRet (tC (.bl true)))))))))))

def dT : PyData → String
  | .none => "NoneType"
  | .bool _ => "bool"
  | .int _ => "int"
  | .str _ => "str"
  | .list _ => "list"
  | .tuple _ => "tuple"
  | .dict _ => "dict"
theorem ty_ofD {K : PySem.W.Frag} {H : Hp} {x : V} {d : PyData} (h : Dp K H x d) : TyX K H x (.type (dT d)) := by
  cases h with
  | non => exact .base .non
  | bl b => exact .base (.bl b)
  | int i => exact .base (.int i)
  | str x => exact .base (.str x)
  | lst hs ha =>
    rcases hs with (hs | ⟨o, hs⟩) | ⟨o, _, _, h1, h2, _⟩
    · exact .base (.lst hs)
    · exact .base (.frz hs)
    · exact .kList h1 h2
  | tup hs ha =>
    rcases hs with (hs | ⟨o, hs⟩) | ⟨o, _, _, h1, h2, _⟩
    · exact .base (.tup hs)
    · exact .fTuple hs
    · exact .kTuple h1 h2
section
variable {K : PySem.W.Frag} {s : L2.St} {H : Hp} {ta tb : TE} {x : V} {d : PyData}
theorem ev_isi {T : String} {b : Bool} (e : Ev ta s H x) (h : Dp K H x d) (hk : kitB (dT d) T = some b) : Ev (tCB (rIsi K) (tCons ta (tCons (tC (.ty T)) tNil))) s H (.bl b) :=
  fun Q q => e _ ⟨x, .ty T, .type (dT d), .type T, b, rfl, .ty T, ty_ofD h, kit_ty hk, q⟩
theorem ev_ixD {p : Addr} {i : Nat} {xs : List V} {v : V} (ha : Ev ta s H (.ref p)) (hb : Ev tb s H (.int (i : Int))) (h : SqL K H p xs ∨ SqT K H p xs) (hv : xs[i]? = some v) : Ev (tOp (rIx K) ta tb) s H v := fun Q q => ha _ (hb _ (by
  rcases h with h | h
  · exact .inl ⟨p, xs, _, v, rfl, rfl, h, atI_nat hv, q⟩
  · exact .inr (.inl ⟨p, xs, _, v, rfl, rfl, h, atI_nat hv, q⟩)))
theorem ev_lenD {p : Addr} {xs : List V} (ha : Ev ta s H (.ref p)) (h : SqL K H p xs ∨ SqT K H p xs) : Ev (tCB (rLen1 K) (tCons ta tNil)) s H (.int xs.length) := fun _ q => ha _ ⟨p, xs, rfl, h, q⟩
end
theorem lay_mem : ∀ {ds : List PyData} {d : PyData}, d ∈ ds → PyData.canLayAll0 ds = true → d.canLay0 = true ∧ d.depth ≤ PyData.depthAll ds
  | [], _, h, _ => by cases h
  | e :: ds, d, h, c => by
    simp only [PyData.canLayAll0, Bool.and_eq_true] at c
    simp only [PyData.depthAll]
    rcases List.mem_cons.mp h with rfl | h
    · exact ⟨c.1, Nat.le_max_left _ _⟩
    · obtain ⟨h1, h2⟩ := lay_mem h c.2
      exact ⟨h1, Nat.le_trans h2 (Nat.le_max_right _ _)⟩
theorem t_notL {t : TT} {s : L2.St} {H : Hp} {Q : Bool → Hp → Prop} (h : t s H fun c H1 => Q (!c) H1) : tNot t s H Q := h
/-- the walk through the items of two that are alike -/
theorem like_loop {Z : Cs} {n : Nat} {x y : Addr} {xs ys : List V} {ds : List PyData} {H : Hp} {s : L2.St} (hn : n ≤ 60) (hs : s = [some (.ref x), some (.ref y), none, none]) (hx : SqL Z.K H x xs ∨ SqT Z.K H x xs) (hy : SqL Z.K H y ys ∨ SqT Z.K H y ys) (dx : DpAll Z.K H xs ds) (dy : DpAll Z.K H ys ds) (cl : PyData.canLayAll0 ds = true) (hd : PyData.depthAll ds < n) (hz : ds.length ≤ 1000000) (sm : ∀ d ∈ ds, Small d)
    (D : Ends) (hD : ∀ s', D.nx s' H) : tFor (iRng1 (tCons (tCB (rLen1 Z.K) (tCons (tVar 1) tNil)) tNil)) (gName 3) ((tIfS (tNot (tB (tCall (sp_L_like Z n) [] E0 (tCons (tOp (rIx Z.K) (tVar 0) (tVar 3)) (tCons (tOp (rIx Z.K) (tVar 1) (tVar 3)) tNil))))) ((tRet (tC (.bl false)))) (tNext))) D s H := by
  subst hs
  have l1 := dp_len dx
  have l2 := dp_len dy
  refine s_forR (n := ds.length) (ev_is (ev_lenD (ev_var rfl) hy) (by rw [l2])) hz (fun i s' H' => H' = H ∧ ∃ z, s' = [some (.ref x), some (.ref y), none, z]) ⟨rfl, none, rfl⟩ (fun i s' H' hi p => ?_) (fun s' H' p => ?_)
  · obtain ⟨rfl, z, rfl⟩ := p
    have hdi : ds[i]? = some ds[i] := List.getElem?_eq_getElem hi
    obtain ⟨vx, hvx, px⟩ := dp_get i dx hdi
    obtain ⟨vy, hvy, py⟩ := dp_get i dy hdi
    obtain ⟨c1, c2⟩ := lay_mem (List.mem_of_getElem? hdi) cl
    dsimp only [gName]
    refine s_if_of (t_notL (t_B_of (s_call (ea_cons (ev_ixD (ev_var rfl) (ev_var rfl) hx hvx) (ea_cons (ev_ixD (ev_var rfl) (ev_var rfl) hy hvy) ea_nil)) ⟨vx, vy, ds[i], rfl, px, py, c1, by omega, hn, sm _ (List.mem_of_getElem? hdi), ⟨true, rfl, iteF ?_⟩⟩)))
    exact ⟨rfl, _, rfl⟩
  · obtain ⟨rfl, _⟩ := p
    exact hD s'
theorem pure_L_like {Z : Cs} {n : Nat} (vs : List V) (H : Hp) (Q : VK) (E : XK) (h : sp_L_like Z (n + 1) vs H Q E) : t_L_like Z n { nx := fun _ H' => Q .non H', rt := Q } (start ["_law_found", "_law_due", "_law_key", "_law_k"] vs) H := by
  obtain ⟨x, y, d, rfl, hx, hy, cl, hd, hn, sm, q⟩ := h
  have sh : SeqAt.shaped d = true := by
    show (d.canLay0 && decide (d.depth ≤ 64)) = true
    rw [cl, decide_eq_true (by omega)]
    rfl
  have EQ : Ev (tOp (rEqD Z.K) (tVar 0) (tVar 1)) (start ["_law_found", "_law_due", "_law_key", "_law_k"] [x, y]) H (.bl true) := ev_is (ev_eqD (ev_var rfl) (ev_var rfl) hx hy sh sh) (by rw [SeqAt.eqv_refl d cl])
  have I0 : ∀ (T : String) (b : Bool), kitB (dT d) T = some b → Ev (tCB (rIsi Z.K) (tCons (tVar 0) (tCons (tC (.ty T)) tNil))) (start ["_law_found", "_law_due", "_law_key", "_law_k"] [x, y]) H (.bl b) := fun T b hk => ev_isi (ev_var rfl) hx hk
  have I1 : ∀ (T : String) (b : Bool), kitB (dT d) T = some b → Ev (tCB (rIsi Z.K) (tCons (tVar 1) (tCons (tC (.ty T)) tNil))) (start ["_law_found", "_law_due", "_law_key", "_law_k"] [x, y]) H (.bl b) := fun T b hk => ev_isi (ev_var rfl) hy hk
  unfold t_L_like
  walk_at "q"
  cases d with
  | bool b =>
    refine s_ifT (et_B (I1 "bool" true (by kernel_rfl))) ?_
    exact s_ret (ev_is (ev_andV (I0 "bool" true (by kernel_rfl)) fun _ => EQ) rfl) q
  | str z =>
    refine s_ifF (et_B (I1 "bool" false (by kernel_rfl))) ?_
    dsimp only [tNext]
    walk_at "q"
    refine s_ifT (et_B (I1 "str" true (by kernel_rfl))) ?_
    exact s_ret (ev_is (ev_andV (I0 "str" true (by kernel_rfl)) fun _ => EQ) rfl) q
  | int i =>
    refine s_ifF (et_B (I1 "bool" false (by kernel_rfl))) ?_
    dsimp only [tNext]
    walk_at "q"
    refine s_ifF (et_B (I1 "str" false (by kernel_rfl))) ?_
    dsimp only [tNext]
    walk_at "q"
    refine s_ifT (et_B (I1 "int" true (by kernel_rfl))) ?_
    exact s_ret (ev_is (ev_andV (I0 "int" true (by kernel_rfl)) fun _ => ev_andV (ev_notV (I0 "bool" false (by kernel_rfl))) fun _ => EQ) rfl) q
  | none =>
    cases hx
    cases hy
    refine s_ifF (et_B (I1 "bool" false (by kernel_rfl))) ?_
    dsimp only [tNext]
    walk_at "q"
    refine s_ifF (et_B (I1 "str" false (by kernel_rfl))) ?_
    dsimp only [tNext]
    walk_at "q"
    refine s_ifF (et_B (I1 "int" false (by kernel_rfl))) ?_
    dsimp only [tNext]
    walk_at "q"
    refine s_ifT (et_is (et_test (ev_isN (ev_var rfl))) (decide_eq_true rfl)) ?_
    exact s_ret (ev_is (ev_isN (ev_var rfl)) (by rw [decide_eq_true rfl])) q
  | list ds =>
    cases hx with
    | @lst ax xs _ sx ax' =>
    cases hy with
    | @lst ay ys _ sy ay' =>
    obtain ⟨hz, sm'⟩ : ds.length ≤ 1000000 ∧ ∀ d ∈ ds, Small d := by
      cases sm with
      | list h1 h2 => exact ⟨h1, h2⟩
    have clx : PyData.canLayAll0 ds = true := by simpa only [PyData.canLay0] using cl
    simp only [PyData.depth] at hd
    refine s_ifF (et_B (I1 "bool" false (by kernel_rfl))) ?_
    dsimp only [tNext]
    walk_at "q"
    refine s_ifF (et_B (I1 "str" false (by kernel_rfl))) ?_
    dsimp only [tNext]
    walk_at "q"
    refine s_ifF (et_B (I1 "int" false (by kernel_rfl))) ?_
    dsimp only [tNext]
    walk_at "q"
    refine s_ifF (et_is (et_test (ev_isN (ev_var rfl))) (decide_eq_false (fun z => by cases z))) ?_
    dsimp only [tNext]
    walk_at "q"
    refine s_ifF (et_B (I1 "dict" false (by kernel_rfl))) ?_
    dsimp only [tNext]
    walk_at "q"
    refine s_ifF (et_is (et_or (et_test (ev_ne (I1 "tuple" false (by kernel_rfl)) (I0 "tuple" false (by kernel_rfl)) rfl)) fun _ => et_test (ev_ne (I1 "list" true (by kernel_rfl)) (I0 "list" true (by kernel_rfl)) rfl)) rfl) ?_
    dsimp only [tNext]
    walk_at "q"
    refine s_ifF (et_is (et_test (ev_ne (ev_lenD (ev_var rfl) (.inl sx)) (ev_lenD (ev_var rfl) (.inl sy)) rfl)) (by rw [dp_len ax', dp_len ay', decide_eq_true rfl]; rfl)) ?_
    dsimp only [tNext]
    walk_at "q"
    exact like_loop (by omega) rfl (.inl sx) (.inl sy) ax' ay' clx (by omega) hz sm' _ fun s' => (by dsimp only; exact s_ret ev_c q)
  | tuple ds =>
    cases hx with
    | @tup ax xs _ sx ax' =>
    cases hy with
    | @tup ay ys _ sy ay' =>
    obtain ⟨hz, sm'⟩ : ds.length ≤ 1000000 ∧ ∀ d ∈ ds, Small d := by
      cases sm with
      | tuple h1 h2 => exact ⟨h1, h2⟩
    have clx : PyData.canLayAll0 ds = true := by simpa only [PyData.canLay0] using cl
    simp only [PyData.depth] at hd
    refine s_ifF (et_B (I1 "bool" false (by kernel_rfl))) ?_
    dsimp only [tNext]
    walk_at "q"
    refine s_ifF (et_B (I1 "str" false (by kernel_rfl))) ?_
    dsimp only [tNext]
    walk_at "q"
    refine s_ifF (et_B (I1 "int" false (by kernel_rfl))) ?_
    dsimp only [tNext]
    walk_at "q"
    refine s_ifF (et_is (et_test (ev_isN (ev_var rfl))) (decide_eq_false (fun z => by cases z))) ?_
    dsimp only [tNext]
    walk_at "q"
    refine s_ifF (et_B (I1 "dict" false (by kernel_rfl))) ?_
    dsimp only [tNext]
    walk_at "q"
    refine s_ifF (et_is (et_or (et_test (ev_ne (I1 "tuple" true (by kernel_rfl)) (I0 "tuple" true (by kernel_rfl)) rfl)) fun _ => et_test (ev_ne (I1 "list" false (by kernel_rfl)) (I0 "list" false (by kernel_rfl)) rfl)) rfl) ?_
    dsimp only [tNext]
    walk_at "q"
    refine s_ifF (et_is (et_test (ev_ne (ev_lenD (ev_var rfl) (.inr sx)) (ev_lenD (ev_var rfl) (.inr sy)) rfl)) (by rw [dp_len ax', dp_len ay', decide_eq_true rfl]; rfl)) ?_
    dsimp only [tNext]
    walk_at "q"
    exact like_loop (by omega) rfl (.inr sx) (.inr sy) ax' ay' clx (by omega) hz sm' _ fun s' => (by dsimp only; exact s_ret ev_c q)
  | dict _ => cases hx
end SS

set_option Elab.async false
set_option linter.all false
set_option maxRecDepth 100000
set_option maxHeartbeats 4000000
namespace SS
open PySem L2
local macro_rules | `(tactic| walk_at "q") => `(tactic| ((try dsimp only); refine s_seq ?_))

/-! ### data of programs -/
def deedD : Deed → PyData
  | .pop => .tuple [.str "pop"]
  | .push v => .tuple [.str "push", .int v]
def rowD (p : List Deed) : PyData := .list (p.map deedD)
def progsD (ps : List (List Deed)) : PyData := .list (ps.map rowD)
theorem DeedAt.dp {K : PySem.W.Frag} {H : Hp} {v : V} {d : Deed} (h : DeedAt H v d) : Dp K H v (deedD d) := by
  obtain ⟨q, rfl, h⟩ := h
  cases d with
  | pop => exact .tup (SqT.of h) (.cons (.str _) .nil)
  | push v => exact .tup (SqT.of h) (.cons (.str _) (.cons (.int _) .nil))
theorem ProgAt.dp {K : PySem.W.Frag} {H : Hp} {v : V} {p : List Deed} (h : ProgAt H v p) : Dp K H v (rowD p) := by
  obtain ⟨q, us, rfl, h1, h2⟩ := h
  exact .lst (SqL.of h1) (dp_of (R := DeedAt H) (f := deedD) (fun _ _ h => h.dp) h2)
theorem PgAt.dp {K : PySem.W.Frag} {H : Hp} {l : Addr} {ps : List (List Deed)} (h : PgAt H l ps) : Dp K H (.ref l) (progsD ps) := by
  obtain ⟨us, h1, h2⟩ := h
  exact .lst (SqL.of h1) (dp_of (R := ProgAt H) (f := rowD) (fun _ _ h => h.dp) h2)
theorem okD_deed (d : Deed) : okD 1 (deedD d) := by
  have o1 : okD 0 (.str "pop") := by unfold okD; decide +kernel
  have o2 : okD 0 (.str "push") := by unfold okD; decide +kernel
  cases d with
  | pop =>
    refine okD_tup fun x hx => ?_
    have e : x = .str "pop" := by simpa using hx
    rw [e]
    exact o1
  | push v =>
    refine okD_tup fun x hx => ?_
    simp only [List.mem_cons, List.not_mem_nil, or_false] at hx
    rcases hx with rfl | rfl
    · exact o2
    · exact okD_int _
theorem okD_row (p : List Deed) : okD 2 (rowD p) := okD_list fun x hx => by
  obtain ⟨d, _, rfl⟩ := List.mem_map.mp hx
  exact okD_deed d
theorem okD_progs (ps : List (List Deed)) : okD 3 (progsD ps) := okD_list fun x hx => by
  obtain ⟨p, _, rfl⟩ := List.mem_map.mp hx
  exact okD_row p
theorem okD_whole (m : M) : okD 3 (wholeD m) := okD_tup fun d h => by
  simp only [List.mem_cons, List.not_mem_nil, or_false] at h
  rcases h with rfl | rfl | rfl | rfl
  · exact okD_list fun x hx => by
      obtain ⟨y, _, rfl⟩ := List.mem_map.mp hx
      exact okD_said y
  · exact okD_order _
  · exact (okD_ints _).mono (by decide)
  · exact (okD_bool _).mono (by decide)
theorem WholeAt.dp {K : PySem.W.Frag} {H H' : Hp} {v : V} {m : M} (h : WholeAt H H' v m) : Dp K H' v (wholeD m) := by
  obtain ⟨t, la, lo, lv, as, us, rfl, ht, h1, h2, h3, h4, h5, _⟩ := h
  exact .tup (SqT.of ht) (.cons (.lst (SqL.of h1) (saidsDp h2)) (.cons (orderDp h3 h4) (.cons (.lst (SqL.of h5) (dp_ints _)) (.cons (.bl _) .nil))))
/-! ### none too long -/
theorem small_ints (l : List Int) (h : l.length ≤ 1000000) : Small (.list (l.map PyData.int)) := .list (by rw [List.length_map]; exact h) fun d hd => by
  obtain ⟨i, _, rfl⟩ := List.mem_map.mp hd
  exact .int i
theorem small_nats (l : List Nat) (h : l.length ≤ 1000000) : Small (natsD l) := small_ints _ (by rw [List.length_map]; exact h)
theorem small_ans (a : Ans) : Small (ansD a) := by
  cases a with
  | non => exact .none
  | done => exact .str _
  | val v => exact .int v
theorem small_said (x : Hd) (h : x.said.length ≤ 1000) : Small (saidD x) := .list (by rw [List.length_map]; omega) fun d hd => by
  obtain ⟨a, _, rfl⟩ := List.mem_map.mp hd
  exact small_ans a
theorem small_pair (p : Nat × Nat) : Small (pairD p) := .tuple (by show 2 ≤ 1000000; decide) fun d hd => by
  simp only [List.mem_cons, List.not_mem_nil, or_false] at hd
  rcases hd with rfl | rfl
  · exact .int _
  · exact .int _
theorem small_order (l : List (Nat × Nat)) (h : l.length ≤ 1000) : Small (.list (l.map pairD)) := .list (by rw [List.length_map]; omega) fun d hd => by
  obtain ⟨a, _, rfl⟩ := List.mem_map.mp hd
  exact small_pair a
theorem small_tell (t : Tell) : Small (tellD t) := .tuple (by cases t <;> simp [tellDs]) fun d hd => by
  cases t <;> simp only [tellDs, List.mem_cons, List.not_mem_nil, or_false] at hd
  · rw [hd]; exact .str _
  · rcases hd with rfl | rfl
    · exact .str _
    · exact .int _
  · rcases hd with rfl | rfl
    · exact .str _
    · exact .int _
  · rcases hd with rfl | rfl
    · exact .str _
    · exact small_ans _
  · rcases hd with rfl | rfl
    · exact .str _
    · exact .int _
  · rcases hd with rfl | rfl
    · exact .str _
    · exact .int _
  · rcases hd with rfl | rfl
    · exact .str _
    · exact .bool _
  · rcases hd with rfl | rfl
    · exact .str _
    · exact .int _
  · rcases hd with rfl | rfl
    · exact .str _
    · exact .int _
  · rw [hd]; exact .str _
theorem small_tells (ts : List Tell) (h : ts.length ≤ 1000) : Small (.list (ts.map tellD)) := .list (by rw [List.length_map]; omega) fun d hd => by
  obtain ⟨t, _, rfl⟩ := List.mem_map.mp hd
  exact small_tell t
theorem Fine.plenV {ps : List (List Deed)} {r : Rule} {m : M} (f : Fine ps r m) : m.pileValues.length ≤ 1001 := by
  unfold M.pileValues
  rw [List.length_map]
  exact pile_len m f.pile
theorem small_whole {ps : List (List Deed)} {r : Rule} {m : M} (f : Fine ps r m) : Small (wholeD m) := .tuple (by show 4 ≤ 1000000; decide) fun d hd => by
  simp only [List.mem_cons, List.not_mem_nil, or_false] at hd
  have hn := f.hn
  have hp := f.plen
  rcases hd with rfl | rfl | rfl | rfl
  · exact .list (by rw [List.length_map]; omega) fun x hx => by
      obtain ⟨y, hy, rfl⟩ := List.mem_map.mp hx
      obtain ⟨i, hi⟩ := List.mem_iff_getElem?.mp hy
      have := f.wf.sl i
      rw [hd_of hi] at this
      exact small_said y (by omega)
  · exact small_order _ (by have := f.wf.el; omega)
  · exact small_ints _ (by have := f.plenV; omega)
  · exact .bool _
/-- _law_like(found, due) -/
theorem s_like {Z : Cs} {s : L2.St} {H : Hp} {Q : VK} {ta tb : TE} {x y : V} {d : PyData} {n : Nat} (ha : Ev ta s H x) (hb : Ev tb s H y) (h1 : Dp Z.K H x d) (h2 : Dp Z.K H y d) (o : okD n d) (hn : n < 6) (sm : Small d) (q : Q (.bl true) H) :
    tCall (sp_L_like Z 6) [] E0 (tCons ta (tCons tb tNil)) s H Q :=
  s_call (ea_cons ha (ea_cons hb ea_nil)) ⟨x, y, d, rfl, h1, h2, o.1, Nat.lt_of_le_of_lt o.2 hn, by decide, sm, q⟩
/-- [list(row) for row in programs] -/
theorem e_rowcopies {Z : Cs} {s : L2.St} {H : Hp} {Q : VK} {lp : Addr} {ps : List (List Deed)} {n k : Nat} (hn : s[n]? = some (some (.ref lp))) (hk : k < s.length) (hp : PgAt H lp ps) (p3 : ps.length ≤ 3)
    (q : ∀ D H' (as : List Addr), H D = none → Same H H' → H' D = some (.lst (as.map V.ref)) → All2 (fun (a : Addr) (p : List Deed) => ∃ us, H' a = some (.lst us) ∧ All2 (DeedAt H') us p) as ps → (∀ a ∈ as, H a = none ∧ a ≠ D) → as.Nodup → Q (.ref D) H') :
    tLc (iList Z.K (tVar n)) (gName k) tYes (tCB (rListOf Z.K) (tCons (tVar k) tNil)) [k] s H Q := by
  obtain ⟨us, h1, h2⟩ := hp
  have ul := h2.length
  refine e_lcL (ev_var hn) (SqL.of h1) (fun D i H' => Same H H' ∧ ∃ as : List Addr, H' D = some (.lst (as.map V.ref)) ∧ All2 (fun (a : Addr) (p : List Deed) => ∃ us, H' a = some (.lst us) ∧ All2 (DeedAt H') us p) as (ps.take i) ∧ (∀ a ∈ as, H a = none ∧ a ≠ D ∧ H' a ≠ none) ∧ as.Nodup)
    (fun D hD => ⟨Same.new hD, [], upd_same, by rw [List.take_zero]; exact .nil, fun _ h => (by cases h), List.nodup_nil⟩) (fun D i H' _ _ p => SqL.of (p.1 _ _ h1)) (fun D i x H' hx hD p => ?_) (fun D H' hD p => ?_)
  · obtain ⟨c, as, hL, ha, hf, nd⟩ := p
    have hi : i < us.length := (List.getElem?_eq_some_iff.mp hx).1
    have hg : ps[i]? = some (ps[i]'(by omega)) := List.getElem?_eq_getElem _
    generalize ps[i]'(by omega) = row at hg
    obtain ⟨u, hu, r0, rs, rfl, e3, e4⟩ := h2.get i hg
    rw [hx] at hu
    cases hu
    have al := ha.length
    rw [List.length_take] at al
    refine ⟨by simp only [wipe, List.set_set], et_yes _ (iteT (e_listOf (ev_var (v := .ref r0) ?_) (.inl (SqL.of (c _ _ e3))) fun l hl => ?_))⟩
    · rw [List.getElem?_set_self (by rw [wipe_length]; exact hk)]
    have lD : l ≠ D := fun z => by rw [z, hL] at hl; cases hl
    have k1 : Same H' (upd H' l (.lst rs)) := Same.new hl
    have tD : Tups H' (upd (upd H' l (.lst rs)) D (.lst (as.map V.ref ++ [.ref l]))) := fun b xs e => by
      rw [upd_ne (fun z => by rw [z, hL] at e; cases e)]
      exact k1 _ _ e
    have S2 : Same H (upd (upd H' l (.lst rs)) D (.lst (as.map V.ref ++ [.ref l]))) := same_newer (Same.trans c k1) hD
    refine ⟨as.map V.ref, by rw [upd_ne lD.symm]; exact hL, ?_, S2, as ++ [l], by rw [List.map_append]; exact upd_same, ?_, ?_, ?_⟩
    · rw [List.length_map]
      exact Nat.lt_of_le_of_lt (by omega : _ ≤ 3) (by decide)
    · rw [take_snoc hg]
      refine All2.snoc (R := fun (a : Addr) (p : List Deed) => ∃ us, (upd (upd H' l (.lst rs)) D (.lst (as.map V.ref ++ [.ref l]))) a = some (.lst us) ∧ All2 (DeedAt (upd (upd H' l (.lst rs)) D (.lst (as.map V.ref ++ [.ref l])))) us p) ⟨rs, by rw [upd_ne lD, upd_same], e4.mono fun _ _ => DeedAt.mono fun b xs e => S2 _ _ e⟩ ?_
      exact All2.mono2 (fun a p hm ⟨us, g1, g2⟩ => ⟨us, by rw [upd_ne (hf a hm).2.1]; exact k1 _ _ g1, g2.mono fun _ _ => DeedAt.mono tD⟩) ha
    · intro a hm
      rcases List.mem_append.mp hm with h | h
      · obtain ⟨a1, a2, a3⟩ := hf a h
        refine ⟨a1, a2, ?_⟩
        rw [upd_ne a2]
        cases e : H' a with
        | none => exact absurd e a3
        | some o => rw [k1 _ _ e]; exact fun z => by cases z
      · have e : a = l := by simpa using h
        subst e
        refine ⟨free_of c hl, lD, ?_⟩
        rw [upd_ne lD, upd_same]
        exact fun z => by cases z
    · rw [List.nodup_append]
      refine ⟨nd, by simp, fun a h b hb => ?_⟩
      have e : b = l := by simpa using hb
      subst e
      exact fun z => (hf a h).2.2 (by rw [z]; exact hl)
  · obtain ⟨c, as, hL, ha, hf, nd⟩ := p
    rw [ul, List.take_length] at ha
    exact q D H' as hD c hL ha (fun a h => ⟨(hf a h).1, (hf a h).2.1⟩) nd
theorem rows_pg' {H : Hp} {D : Addr} : ∀ {as : List Addr} {ps : List (List Deed)}, All2 (fun (a : Addr) (p : List Deed) => ∃ us, H a = some (.lst us) ∧ All2 (DeedAt H) us p) as ps → All2 (ProgAt H) (as.map V.ref) ps
  | _, _, .nil => .nil
  | _, _, .cons ⟨us, h1, h2⟩ b => .cons ⟨_, us, rfl, h1, h2⟩ (rows_pg' (D := D) b)
end SS

set_option Elab.async false
set_option linter.all false
set_option maxRecDepth 100000
set_option maxHeartbeats 4000000
namespace SS
open PySem L2
local macro_rules | `(tactic| walk_at "q") => `(tactic| ((try dsimp only); refine s_seq ?_))

/-! ### comprehensions of one's own -/
/-- [len(row) for row in programs] -/
theorem e_lensP {Z : Cs} {s : L2.St} {H : Hp} {Q : VK} {lp : Addr} {ps : List (List Deed)} {n k : Nat} (hn : s[n]? = some (some (.ref lp))) (hk : k < s.length) (hp : PgAt H lp ps) (p3 : ps.length ≤ 3)
    (q : ∀ D H', H D = none → Same H H' → H' D = some (.lst ((ps.map fun p => (p.length : Int)).map V.int)) → Q (.ref D) H') :
    tLc (iList Z.K (tVar n)) (gName k) tYes (tCB (rLen1 Z.K) (tCons (tVar k) tNil)) [k] s H Q := by
  obtain ⟨us, h1, h2⟩ := hp
  have ul := h2.length
  refine e_lcL (ev_var hn) (SqL.of h1) (fun D i H' => Same H H' ∧ H' D = some (.lst (((ps.take i).map fun p => (p.length : Int)).map V.int))) (fun D hD => ⟨Same.new hD, by rw [List.take_zero]; exact upd_same⟩) (fun D i H' _ _ p => SqL.of (p.1 _ _ h1)) (fun D i x H' hx hD p => ?_) (fun D H' hD p => ?_)
  · obtain ⟨c, hL⟩ := p
    have hi : i < us.length := (List.getElem?_eq_some_iff.mp hx).1
    have hg : ps[i]? = some (ps[i]'(by omega)) := List.getElem?_eq_getElem _
    generalize ps[i]'(by omega) = row at hg
    obtain ⟨u, hu, r0, rs, rfl, e3, e4⟩ := h2.get i hg
    rw [hx] at hu
    cases hu
    refine ⟨by simp only [wipe, List.set_set], et_yes _ (iteT ((ev_lenL (ev_var (v := .ref r0) ?_) (SqL.of (c _ _ e3))) _ ⟨_, hL, ?_, same_newer c hD, ?_⟩))⟩
    · rw [List.getElem?_set_self (by rw [wipe_length]; exact hk)]
    · rw [List.length_map, List.length_map, List.length_take]
      exact Nat.lt_of_le_of_lt (by omega : _ ≤ 3) (by decide)
    · rw [take_snoc hg, List.map_append, List.map_append, e4.length]
      exact upd_same
  · rw [ul, List.take_length] at p
    exact q D H' hD p.1 p.2
/-- [len(row) for row in answers] -/
theorem e_lensA {Z : Cs} {s : L2.St} {H : Hp} {Q : VK} {la : Addr} {as : List Addr} {hs : List Hd} {n k : Nat} (hn : s[n]? = some (some (.ref la))) (hk : k < s.length) (hl : H la = some (.lst (as.map V.ref))) (ha : All2 (fun (a : Addr) (x : Hd) => H a = some (.lst (x.said.map ansV))) as hs) (p3 : hs.length ≤ 3)
    (q : ∀ D H', H D = none → Same H H' → H' D = some (.lst ((hs.map fun x => (x.said.length : Int)).map V.int)) → Q (.ref D) H') :
    tLc (iList Z.K (tVar n)) (gName k) tYes (tCB (rLen1 Z.K) (tCons (tVar k) tNil)) [k] s H Q := by
  have al := ha.length
  refine e_lcL (ev_var hn) (SqL.of hl) (fun D i H' => Same H H' ∧ H' D = some (.lst (((hs.take i).map fun x => (x.said.length : Int)).map V.int))) (fun D hD => ⟨Same.new hD, by rw [List.take_zero]; exact upd_same⟩) (fun D i H' _ _ p => SqL.of (p.1 _ _ hl)) (fun D i x H' hx hD p => ?_) (fun D H' hD p => ?_)
  · obtain ⟨c, hL⟩ := p
    have hi : i < as.length := by
      have := (List.getElem?_eq_some_iff.mp hx).1
      rwa [List.length_map] at this
    have hg : hs[i]? = some (hs[i]'(by omega)) := List.getElem?_eq_getElem _
    generalize hs[i]'(by omega) = row at hg
    obtain ⟨a, hu, e3⟩ := ha.get i hg
    rw [List.getElem?_map, hu] at hx
    cases hx
    refine ⟨by simp only [wipe, List.set_set], et_yes _ (iteT ((ev_lenL (ev_var (v := .ref a) ?_) (SqL.of (c _ _ e3))) _ ⟨_, hL, ?_, same_newer c hD, ?_⟩))⟩
    · rw [List.getElem?_set_self (by rw [wipe_length]; exact hk)]
    · rw [List.length_map, List.length_map, List.length_take]
      exact Nat.lt_of_le_of_lt (by omega : _ ≤ 3) (by decide)
    · rw [take_snoc hg, List.map_append, List.map_append, List.length_map]
      exact upd_same
  · rw [List.length_map, al, List.take_length] at p
    exact q D H' hD p.1 p.2
/-- [(hand, k) for k in range(len(programs[hand]))] -/
theorem e_pairs {Z : Cs} {s : L2.St} {H : Hp} {Q : VK} {n h k N : Nat} {tl : TE} (hh : s[n]? = some (some (.int (h : Int)))) (hk : k < s.length) (nk : n ≠ k) (ht : Ev tl s H (.int (N : Int))) (hN : N ≤ 1000)
    (q : ∀ D H' us, H D = none → Same H H' → H' D = some (.lst us) → All2 (PairAt H') us ((List.range N).map fun i => (h, i)) → Q (.ref D) H') :
    tLc (iRng1 (tCons tl tNil)) (gName k) tYes (tTup (tCons (tVar n) (tCons (tVar k) tNil))) [k] s H Q := by
  refine e_lcR (n := N) ht (by omega) (fun D i H' => Same H H' ∧ ∃ us, H' D = some (.lst us) ∧ All2 (PairAt H') us ((List.range i).map fun i => (h, i))) (fun D hD => ⟨Same.new hD, [], upd_same, .nil⟩) (fun D i H' hi hD p => ?_) (fun D H' hD p => ?_)
  · obtain ⟨c, us, hL, hu⟩ := p
    have hw : (wipe s [k])[n]? = some (some (.int (h : Int))) := by rw [wipe_out (by simpa using nk)]; exact hh
    have gk : ((wipe s [k]).set k (some (V.int (i : Int))))[k]? = some (some (V.int (i : Int))) := by rw [List.getElem?_set_self (by rw [wipe_length]; exact hk)]
    have gn : ((wipe s [k]).set k (some (V.int (i : Int))))[n]? = some (some (.int (h : Int))) := by rw [List.getElem?_set_ne (fun z => nk z.symm)]; exact hw
    have ul := hu.length
    rw [List.length_map, List.length_range] at ul
    refine ⟨by simp only [wipe, List.set_set], et_yes _ (iteT (e_tup (ea_cons (ev_var gn) (ea_cons (ev_var gk) ea_nil)) (by show 2 ≤ 1000; decide) fun p2 hp2 => ?_))⟩
    have k1 : Same H' (upd H' p2 (.tup [.int (h : Int), .int (i : Int)])) := Same.new hp2
    have hL1 := k1 _ _ hL
    refine ⟨us, hL1, by rw [ul]; exact Nat.lt_of_lt_of_le hi (Nat.le_trans hN (by decide)), same_newer (Same.trans c k1) hD, us ++ [.ref p2], upd_same, ?_⟩
    have tp : Tups (upd H' p2 (.tup [.int (h : Int), .int (i : Int)])) (upd (upd H' p2 (.tup [.int (h : Int), .int (i : Int)])) D (.lst (us ++ [.ref p2]))) := fun b xs e => by
      rw [upd_ne (fun z => by rw [z, hL1] at e; cases e)]
      exact e
    rw [List.range_succ, List.map_append]
    refine All2.snoc (R := PairAt (upd (upd H' p2 (.tup [.int (h : Int), .int (i : Int)])) D (.lst (us ++ [.ref p2])))) (a := V.ref p2) (b := (h, i)) ⟨p2, rfl, tp _ _ upd_same⟩ (hu.mono fun _ _ => PairAt.mono fun b xs e => tp _ _ (k1 _ _ e))
  · obtain ⟨c, us, hL, hu⟩ := p
    exact q D H' us hD c hL hu
/-- [one[1] for one in order if one[0] == hand] -/
theorem e_seconds {Z : Cs} {s : L2.St} {H : Hp} {Q : VK} {lo : Addr} {us : List V} {es : List (Nat × Nat)} {n h k j : Nat} (hn : s[n]? = some (some (.ref lo))) (hh : s[j]? = some (some (.int (h : Int)))) (hk : k < s.length) (jk : j ≠ k) (hl : H lo = some (.lst us)) (ha : All2 (PairAt H) us es) (e3 : es.length ≤ 1000)
    (q : ∀ D H', H D = none → Same H H' → H' D = some (.lst (((es.filter fun e => e.1 == h).map (·.2)).map natV)) → Q (.ref D) H') :
    tLc (iList Z.K (tVar n)) (gName k) (tTest (tOp rEq (tOp (rIxT Z.K) (tVar k) (tC (.int 0))) (tVar j))) (tOp (rIxT Z.K) (tVar k) (tC (.int 1))) [k] s H Q := by
  have al := ha.length
  refine e_lcL (ev_var hn) (SqL.of hl) (fun D i H' => Same H H' ∧ H' D = some (.lst ((((es.take i).filter fun e => e.1 == h).map (·.2)).map natV))) (fun D hD => ⟨Same.new hD, upd_same⟩) (fun D i H' _ _ p => SqL.of (p.1 _ _ hl)) (fun D i x H' hx hD p => ?_) (fun D H' hD p => ?_)
  · obtain ⟨c, hL⟩ := p
    have hi : i < us.length := (List.getElem?_eq_some_iff.mp hx).1
    have hg : es[i]? = some (es[i]'(by omega)) := List.getElem?_eq_getElem _
    generalize es[i]'(by omega) = e at hg
    obtain ⟨a, hu, p2, rfl, e4⟩ := ha.get i hg
    rw [hx] at hu
    cases hu
    have hw : (wipe s [k])[j]? = some (some (.int (h : Int))) := by rw [wipe_out (by simpa using jk)]; exact hh
    have gk : ((wipe s [k]).set k (some (V.ref p2)))[k]? = some (some (V.ref p2)) := by rw [List.getElem?_set_self (by rw [wipe_length]; exact hk)]
    have gj : ((wipe s [k]).set k (some (V.ref p2)))[j]? = some (some (.int (h : Int))) := by rw [List.getElem?_set_ne (fun z => jk z.symm)]; exact hw
    have e5 := c _ _ e4
    refine ⟨by simp only [wipe, List.set_set], ?_⟩
    refine et_test (ev_eq (ev_ixT (ev_var gk) ev_c (SqT.of e5) (atI_nat (j := 0) rfl)) (ev_var gj) rfl) _ ?_
    rw [dec_nat]
    by_cases z : e.1 = h
    · rw [decide_eq_true z]
      refine iteT (ev_ixT (ev_var gk) ev_c (SqT.of e5) (atI_nat (j := 1) rfl) _ ⟨_, hL, ?_, same_newer c hD, ?_⟩)
      · rw [List.length_map, List.length_map]
        refine Nat.lt_of_le_of_lt (List.length_filter_le _ _) ?_
        rw [List.length_take]
        exact Nat.lt_of_le_of_lt (by omega : _ ≤ 1000) (by decide)
      · rw [upd_same, take_snoc hg, List.filter_append, List.map_append, List.map_append]
        have : (e.1 == h) = true := beq_iff_eq.mpr z
        simp [this]
    · rw [decide_eq_false z]
      refine iteF ⟨c, ?_⟩
      rw [hL, take_snoc hg, List.filter_append]
      have : (e.1 == h) = false := beq_eq_false_iff_ne.mpr z
      simp [this]
  · rw [al, List.take_length] at p
    exact q D H' hD p.1 p.2
/-! ### pairs sorted -/
def pairOf (H : Hp) (v : V) : Int × Int :=
  match v with
  | .ref t => match H t with
    | some (.tup [.int i, .int j]) => (i, j)
    | _ => (0, 0)
  | _ => (0, 0)
theorem pairOf_at {H : Hp} {v : V} {p : Nat × Nat} (h : PairAt H v p) : pairOf H v = ((p.1 : Int), (p.2 : Int)) ∧ ∃ t, v = .ref t ∧ H t = some (.tup [.int (pairOf H v).1, .int (pairOf H v).2]) := by
  obtain ⟨q, rfl, h⟩ := h
  have e : pairOf H (.ref q) = ((p.1 : Int), (p.2 : Int)) := by
    unfold pairOf
    simp only [h]
  exact ⟨e, q, rfl, by rw [e]; exact h⟩
theorem all2_map {H : Hp} : ∀ {us : List V} {es : List (Nat × Nat)}, All2 (PairAt H) us es → us.map (pairOf H) = es.map fun p => ((p.1 : Int), (p.2 : Int))
  | _, _, .nil => rfl
  | _, _, .cons a b => by rw [List.map_cons, List.map_cons, (pairOf_at a).1, all2_map b]
theorem all2_mem {H : Hp} {v : V} : ∀ {us : List V} {es : List (Nat × Nat)}, All2 (PairAt H) us es → v ∈ us → ∃ e, PairAt H v e
  | _, _, .cons a b, h => by
    rcases List.mem_cons.mp h with rfl | h
    · exact ⟨_, a⟩
    · exact all2_mem b h
/-- sorted(order): as pairs are -/
theorem sorted_pairs {H : Hp} {us ys : List V} {es : List (Nat × Nat)} {ps : List (List Deed)} (ha : All2 (PairAt H) us es) (hp : es.Perm (dueOf ps ps.length)) (s1 : SrtO.Srtd (ltP (pairOf H)) ys) (s2 : SrtO.Stb (ltP (pairOf H)) ys us) : All2 (PairAt H) ys (dueOf ps ps.length) := by
  have mem : ∀ v ∈ ys, ∃ e, PairAt H v e := fun v hv => all2_mem ha (s2.perm.mem_iff.mp hv)
  have toN : ∀ v ∈ ys, PairAt H v ((pairOf H v).1.toNat, (pairOf H v).2.toNat) := fun v hv => by
    obtain ⟨e, he⟩ := mem v hv
    rw [(pairOf_at he).1]
    simpa using he
  have go : ∀ (l : List V), (∀ v ∈ l, PairAt H v ((pairOf H v).1.toNat, (pairOf H v).2.toNat)) → All2 (PairAt H) l (l.map fun v => ((pairOf H v).1.toNat, (pairOf H v).2.toNat)) := by
    intro l
    induction l with
    | nil => intro _; exact .nil
    | cons v l ih => intro h; exact .cons (h v List.mem_cons_self) (ih fun x hx => h x (List.mem_cons_of_mem _ hx))
  have h1 := go ys toN
  have e1 : (ys.map fun v => ((pairOf H v).1.toNat, (pairOf H v).2.toNat)).Perm es := by
    have h2 := (s2.perm.map fun v => ((pairOf H v).1.toNat, (pairOf H v).2.toNat))
    have h3 : (us.map fun v => ((pairOf H v).1.toNat, (pairOf H v).2.toNat)) = es := by
      have h4 := congrArg (List.map fun p : Int × Int => (p.1.toNat, p.2.toNat)) (all2_map ha)
      rw [List.map_map, List.map_map] at h4
      refine (show _ = _ from h4).trans ?_
      have : ((fun p : Int × Int => (p.1.toNat, p.2.toNat)) ∘ fun p : Nat × Nat => ((p.1 : Int), (p.2 : Int))) = id := by
        funext p
        simp
      rw [this, List.map_id]
    rw [h3] at h2
    exact h2
  have e2 := sorted_due (e1.trans hp) (by
    rw [List.pairwise_map]
    refine List.Pairwise.imp_of_mem (fun {a b} hma hmb h => ?_) s1
    have h' := SrtO.lexB_no.mp h
    obtain ⟨e, he⟩ := mem a hma
    obtain ⟨e', he'⟩ := mem b hmb
    rw [(pairOf_at he).1, (pairOf_at he').1] at h'
    rw [(pairOf_at he).1, (pairOf_at he').1]
    unfold ltN
    simp only [Int.toNat_natCast]
    simp only at h'
    omega)
  rw [e2] at h1
  exact h1
/-! ### rules as data -/
theorem okD_counts : okD 0 (.str "counts") := by unfold okD; decide +kernel
theorem okD_marks : okD 0 (.str "marks") := by unfold okD; decide +kernel
theorem okD_keeps : okD 0 (.str "keeps") := by unfold okD; decide +kernel
theorem okD_tints (l : List Int) : okD 1 (.tuple (l.map PyData.int)) := okD_tup fun d h => by
  obtain ⟨i, _, rfl⟩ := List.mem_map.mp h
  exact okD_int i
theorem okD_rule (r : Rule) : okD 2 (ruleD r) := by
  cases r with
  | counts m =>
    refine okD_tup fun x hx => ?_
    simp only [List.mem_cons, List.not_mem_nil, or_false] at hx
    rcases hx with rfl | rfl
    · exact okD_counts.mono (by decide)
    · exact (okD_int _).mono (by decide)
  | marks hs =>
    refine okD_tup fun x hx => ?_
    simp only [List.mem_cons, List.not_mem_nil, or_false] at hx
    rcases hx with rfl | rfl
    · exact okD_marks.mono (by decide)
    · exact okD_tints _
  | keeps =>
    refine okD_tup fun x hx => ?_
    have e : x = .str "keeps" := by simpa using hx
    rw [e]
    exact okD_keeps.mono (by decide)
theorem eqv_ints : ∀ l l' : List Int, PyData.eqvAll (l.map PyData.int) (l'.map PyData.int) = decide (l = l')
  | [], [] => rfl
  | [], _ :: _ => rfl
  | _ :: _, [] => rfl
  | a :: l, b :: l' => by
    show ((a == b) && PyData.eqvAll (l.map PyData.int) (l'.map PyData.int)) = _
    rw [eqv_ints l l']
    by_cases e : a = b
    · subst e
      by_cases e2 : l = l'
      · subst e2
        simp
      · simp [e2]
    · have : (a == b) = false := beq_eq_false_iff_ne.mpr e
      simp [this, e]
theorem eqv_marks (hs hs' : List Nat) : PyData.eqv (ruleD (.marks hs)) (ruleD (.marks hs')) = decide (hs = hs') := by
  have e : PyData.eqv (ruleD (.marks hs)) (ruleD (.marks hs')) = PyData.eqvAll ((hs.map Int.ofNat).map PyData.int) ((hs'.map Int.ofNat).map PyData.int) := by
    have e0 : PyData.eqv (ruleD (.marks hs)) (ruleD (.marks hs')) = (PyData.eqv (.str "marks") (.str "marks") && (PyData.eqvAll ((hs.map Int.ofNat).map PyData.int) ((hs'.map Int.ofNat).map PyData.int) && true)) := rfl
    have : (PyData.eqv (.str "marks") (.str "marks")) = true := SeqAt.eqv_refl _ okD_marks.1
    rw [e0, this, Bool.and_true, Bool.true_and]
  rw [e, eqv_ints]
  refine decide_eq_decide.mpr ⟨fun h => ?_, fun h => by rw [h]⟩
  have inj : ∀ a b : List Nat, a.map Int.ofNat = b.map Int.ofNat → a = b := by
    intro a
    induction a with
    | nil =>
      intro b h
      cases b with
      | nil => rfl
      | cons x b => cases h
    | cons x a ih =>
      intro b h
      cases b with
      | nil => cases h
      | cons y b =>
        have h1 := (List.cons.inj h).1
        have h2 := (List.cons.inj h).2
        rw [ih b h2, Int.ofNat_inj.mp h1]
  exact inj _ _ h
end SS

set_option Elab.async false
set_option linter.all false
set_option maxRecDepth 100000
set_option maxHeartbeats 4000000
namespace SS
open PySem L2
local macro_rules | `(tactic| walk_at "q") => `(tactic| ((try dsimp only); refine s_seq ?_))

/-! ### the law's own serial -/
theorem cut_last {xs : List V} : cutV xs none (some (-1)) = xs.dropLast := by
  unfold cutV
  rw [HT.sIx_none, List.drop_zero, Nat.sub_zero, List.dropLast_eq_take]
  have e : HT.sIx xs.length xs.length (some (-1)) = xs.length - 1 := by
    show (if (-1 : Int) < 0 then ((-1 : Int) + (xs.length : Int)).toNat else min (-1 : Int).toNat xs.length) = _
    rw [if_pos (by decide)]
    omega
  rw [e]
theorem t_ifE_of {t : TT} {ta tb : TE} {s : L2.St} {H : Hp} {Q : VK} (h : t s H fun b H1 => if b = true then ta s H1 Q else tb s H1 Q) : tIf t ta tb s H Q := h
theorem e_butlast {K : PySem.W.Frag} {te : TE} {s : L2.St} {H : Hp} {Q : VK} {l : Addr} {xs : List V} (h : Ev te s H (.ref l)) (hl : SqL K H l xs) (q : ∀ p, H p = none → Q (.ref p) (upd H p (.lst xs.dropLast))) : tSl (rSlL K) te tNoPart (tPart (tUn rNegI (tC (.int 1)))) s H Q :=
  t_sl_of (h _ (ev_neg ev_c _ ⟨-1, rfl, l, xs, rfl, hl, fun p hp => by rw [cut_last]; exact q p hp⟩))
def sp_L_serial (Z : Cs) : Sp := fun vs H Q _ => ∃ (lv ld : Addr) (values : List Int) (us : List V) (ds : List Deed), vs = [.ref lv, .ref ld] ∧ SqL Z.K H lv (values.map V.int) ∧ values.length ≤ 6 ∧ H ld = some (.lst us) ∧ All2 (DeedAt H) us ds ∧ ds.length ≤ 1000 ∧
  ∀ (t la ln : Addr) H', Same H H' → H' t = some (.tup [.ref la, .ref ln]) → H' la = some (.lst ((serial values ds).1.map ansV)) → H' ln = some (.lst ((serial values ds).2.map V.int)) → Q (.ref t) H'
/-- _law_serial: 0 _law_values_here, 1 _law_deeds, 2 _law_now, 3 _law_answers, 4 _law_deed_here -/
def t_L_serial (Z : Cs) : TS :=
  tSeq (tAsg (tCB (rListOf Z.K) (tCons (tVar 0) tNil)) (gName 2))
    (tSeq (tAsg (tLst tNil) (gName 3))
    (tSeq (tFor (iList Z.K (tVar 1)) (gName 4) ((tIfS (tTest (tOp rEq (tOp (rIxT Z.K) (tVar 4) (tC (.int 0))) (tC (.str "push")))) (tSeq (tAsg (tOp rCat (tVar 2) (tLst (tCons (tOp (rIxT Z.K) (tVar 4) (tC (.int 1))) tNil))) (gName 2))
    ((tDrop (tBM Z.K "list" rAppend (tVar 3) (tCons (tC (.str "done")) tNil))))) (tSeq (tDrop (tBM Z.K "list" rAppend (tVar 3) (tCons (tIf (tTest (tOp (rNeD Z.K) (tVar 2) (tLst tNil))) (tOp (rIxL Z.K) (tVar 2) (tUn rNegI (tC (.int 1)))) (tC .non)) tNil)))
    ((tAsg (tSl (rSlL Z.K) (tVar 2) tNoPart (tPart (tUn rNegI (tC (.int 1))))) (gName 2)))))))
    ((tRet (tTup (tCons (tVar 3) (tCons (tVar 2) tNil)))))))

theorem pure_L_serial {Z : Cs} (vs : List V) (H : Hp) (Q : VK) (E : XK) (h : sp_L_serial Z vs H Q E) : t_L_serial Z { nx := fun _ H' => Q .non H', rt := Q } (start ["_law_values_here", "_law_deeds", "_law_now", "_law_answers", "_law_deed_here"] vs) H := by
  obtain ⟨lv, ld, values, us, ds, rfl, hv, vl, hd, hus, dl, q⟩ := h
  unfold t_L_serial
  walk_at "q"
  refine s_asg_of (e_listOf (ev_var rfl) (.inl hv) fun ln hln => ?_)
  show ({ nx := _, rt := Q : Ends }).nx _ _
  walk_at "q"
  refine s_asg_of (e_lst ea_nil (by show 0 ≤ 1000; decide) fun la hla => ?_)
  show ({ nx := _, rt := Q : Ends }).nx _ _
  have k1 : Same H (upd H ln (.lst (values.map V.int))) := Same.new hln
  have k2 : Same (upd H ln (.lst (values.map V.int))) (upd (upd H ln (.lst (values.map V.int))) la (.lst [])) := Same.new hla
  have hla0 : H la = none := free_of k1 hla
  walk_at "q"
  refine s_forL (ev_var rfl) (SqL.of (k2 _ _ (k1 _ _ hd))) (fun i s' H' => ∃ (x : Option V) (ln : Addr), s' = [some (.ref lv), some (.ref ld), some (.ref ln), some (.ref la), x] ∧ Same H H' ∧ H' ln = some (.lst ((serAt values ds i).2.map V.int)) ∧ ln ≠ la ∧ H' la = some (.lst ((serAt values ds i).1.map ansV)))
    ⟨none, ln, rfl, Same.trans k1 k2, k2 _ _ upd_same, (fun z => by rw [← z, upd_same] at hla; cases hla), upd_same⟩ (fun i s' H' _ ⟨_, _, _, c, _⟩ => SqL.of (c _ _ hd)) (fun i x s' H' hx p => ?_) (fun s' H' p => ?_)
  · clear k1 k2 hln hla
    obtain ⟨y, ln, rfl, c, h1, nla, h2⟩ := p
    have hi : i < us.length := (List.getElem?_eq_some_iff.mp hx).1
    have hdi : ds[i]? = some (ds[i]'(by rw [← hus.length]; exact hi)) := List.getElem?_eq_getElem _
    generalize ds[i]'(by rw [← hus.length]; exact hi) = dd at hdi
    obtain ⟨u, hu, p0, rfl, hp0⟩ := hus.get i hdi
    rw [hx] at hu
    cases hu
    rw [serAt_snoc hdi]
    obtain ⟨b1, b2⟩ := serAt_len values ds i
    have ul := hus.length
    generalize serAt values ds i = z at *
    dsimp only [gName]
    have sz : 2000 < sizeLine := by decide
    have hp1 := c _ _ hp0
    have n1 : decide (V.str "pop" = V.str "push") = false := by decide +kernel
    cases dd with
    | push v =>
      refine s_ifT (et_is (et_test (ev_eq (ev_ixT (ev_var rfl) ev_c (SqT.of hp1) (atI_nat (j := 0) rfl)) ev_c rfl)) (decide_eq_true rfl)) ?_
      walk_at "q"
      refine s_asg_of (t_op_of (ev_var rfl _ (e_lst (ea_cons (ev_ixT (ev_var rfl) ev_c (SqT.of hp1) (atI_nat (j := 1) rfl)) ea_nil) (by show 1 ≤ 1000; decide) fun le hle => ?_)))
      have k5 : Same H' (upd H' le (.lst [V.int v])) := Same.new hle
      refine ⟨ln, le, _, _, rfl, rfl, k5 _ _ h1, upd_same, by rw [List.length_map]; show _ + 1 ≤ _; omega, fun ln2 hln2 => ?_⟩
      have k6 : Same (upd H' le (.lst [V.int v])) (upd (upd H' le (.lst [V.int v])) ln2 (.lst (z.2.map V.int ++ [V.int v]))) := Same.new hln2
      have e6 : (upd (upd H' le (.lst [V.int v])) ln2 (.lst (z.2.map V.int ++ [V.int v]))) ln2 = some (.lst (z.2.map V.int ++ [V.int v])) := upd_same
      have n6 : ln2 ≠ la := fun z => by rw [z, k5 _ _ h2] at hln2; cases hln2
      have c6 := Same.trans c (Same.trans k5 k6)
      have h6 := k6 _ _ (k5 _ _ h2)
      generalize upd (upd H' le (.lst [V.int v])) ln2 (.lst (z.2.map V.int ++ [V.int v])) = H6 at c6 e6 h6 ⊢
      dsimp only [gName]
      refine s_app (ev_var rfl) h6 ev_c (by rw [List.length_map]; omega) ?_
      refine ⟨_, ln2, rfl, same_newer c6 hla0, ?_, n6, ?_⟩
      · rw [upd_ne n6, e6]
        simp [serialStep]
      · rw [upd_same]
        simp [serialStep, ansV]
    | pop =>
      refine s_ifF (et_is (et_test (ev_eq (ev_ixT (ev_var rfl) ev_c (SqT.of hp1) (atI_nat (j := 0) rfl)) ev_c rfl)) n1) ?_
      have e1 : ∀ xs : List Int, PyData.eqv (.list (xs.map PyData.int)) (.list []) = xs.isEmpty := by
        intro xs
        cases xs with
        | nil => rfl
        | cons a l => rfl
      walk_at "q"
      obtain ⟨a, w⟩ := z
      refine s_appX (ev_var rfl) h2 (t_ifE_of (t_test_of (t_op_of (ev_var rfl _ (e_lst ea_nil (by show 0 ≤ 1000; decide) fun le hle => ⟨.list (w.map PyData.int), .list [], .lst (SqL.of (Same.new hle _ _ h1)) (dp_ints _), .lst (SqL.of upd_same) .nil, shaped_ints _, rfl, ⟨_, rfl, ?_⟩⟩)))))
      rw [e1]
      have c1 : Same H (upd H' le (.lst [])) := fun b o e => Same.new hle _ _ (c b o e)
      have h1' := Same.new (o := .lst []) hle _ _ h1
      have h2' := Same.new (o := .lst []) hle _ _ h2
      generalize upd H' le (.lst []) = H5 at c1 h1' h2' ⊢
      have al : a.length ≤ i := b1
      cases hw : w.getLast? with
      | none =>
        have ew : w = [] := List.getLast?_eq_none_iff.mp hw
        subst ew
        refine iteF (ev_c _ ⟨_, h2', by rw [List.length_map]; omega, ?_⟩)
        have c6 := same_newer c1 hla0 (o := .lst (a.map ansV ++ [.non]))
        have h6 : (upd H5 la (.lst (a.map ansV ++ [.non]))) ln = some (.lst []) := by rw [upd_ne nla]; exact h1'
        refine s_asg_of (e_butlast (ev_var rfl) (SqL.of h6) fun l7 hl7 => ?_)
        have k7 : Same (upd H5 la (.lst (a.map ansV ++ [.non]))) (upd (upd H5 la (.lst (a.map ansV ++ [.non]))) l7 (.lst [])) := Same.new hl7
        refine ⟨_, l7, rfl, Same.trans c6 k7, upd_same, (fun z => by rw [z, upd_same] at hl7; cases hl7), ?_⟩
        refine (k7 _ _ upd_same).trans ?_
        simp [serialStep, ansV]
      | some v =>
        have ew : w = w.dropLast ++ [v] := by
          obtain ⟨l, hl⟩ := List.getLast?_eq_some_iff.mp hw
          rw [hl]
          simp
        have ne : w.isEmpty = false := by
          rw [ew]
          simp
        rw [ne]
        have h1'' : H5 ln = some (.lst (w.dropLast.map V.int ++ [V.int v])) := by
          have : w.map V.int = w.dropLast.map V.int ++ [V.int v] := by
            conv => lhs; rw [ew]
            simp
          rw [← this]
          exact h1'
        refine iteT (ev_ixL (ev_var rfl) (ev_neg ev_c) (SqL.of h1'') (atI_last _ _) _ ⟨_, h2', by rw [List.length_map]; omega, ?_⟩)
        have c6 := same_newer c1 hla0 (o := .lst (a.map ansV ++ [.int v]))
        have h6 : (upd H5 la (.lst (a.map ansV ++ [.int v]))) ln = some (.lst (w.map V.int)) := by rw [upd_ne nla]; exact h1'
        refine s_asg_of (e_butlast (ev_var rfl) (SqL.of h6) fun l7 hl7 => ?_)
        have k7 : Same (upd H5 la (.lst (a.map ansV ++ [.int v]))) (upd (upd H5 la (.lst (a.map ansV ++ [.int v]))) l7 (.lst (w.map V.int).dropLast)) := Same.new hl7
        refine ⟨_, l7, rfl, Same.trans c6 k7, ?_, (fun z => by rw [z, upd_same] at hl7; cases hl7), ?_⟩
        · rw [upd_same]
          simp [serialStep, hw]
        · refine (k7 _ _ upd_same).trans ?_
          simp [serialStep, hw, ansV]
  · obtain ⟨y, ln, rfl, c, h1, nla, h2⟩ := p
    have ul := hus.length
    rw [ul] at h1 h2
    have e : serAt values ds ds.length = serial values ds := by
      unfold serAt serial
      rw [List.take_length]
    rw [e] at h1 h2
    dsimp only
    refine s_ret_of (e_tup (ea_cons (ev_var rfl) (ea_cons (ev_var rfl) ea_nil)) (by show 2 ≤ 1000; decide) fun p hp => ?_)
    have k8 : Same H' (upd H' p (.tup [.ref la, .ref ln])) := Same.new hp
    exact q p la ln _ (Same.trans c k8) upd_same (k8 _ _ h2) (k8 _ _ h1)
theorem e_lrange {te : TE} {s : L2.St} {H : Hp} {Q : VK} {n : Nat} (h : Ev te s H (.int (n : Int))) (hn : n ≤ 1000) (q : ∀ p, H p = none → Q (.ref p) (upd H p (.lst ((List.range n).map natV)))) : tLstRg (tRg1 te) s H Q :=
  h _ ⟨_, rfl, .of_le (by omega) (by omega) (by omega) (by omega), fun p hp => by rw [rgV_nat]; exact q p hp⟩
/-- what lies at a pair of places -/
def valAt (H : Hp) (rows : List V) (e : Nat × Nat) : V :=
  match rows.getD e.1 .non with
  | .ref a => match H a with
    | some (.lst xs) => xs.getD e.2 .non
    | _ => .non
  | _ => .non
theorem valAt_is {H : Hp} {rows : List V} {e : Nat × Nat} {a : Addr} {xs : List V} {v : V} (h1 : rows[e.1]? = some (.ref a)) (h2 : H a = some (.lst xs)) (h3 : xs[e.2]? = some v) : valAt H rows e = v := by
  unfold valAt
  rw [getD_get h1]
  simp only [h2]
  exact getD_get h3
/-- [rows[hand][k] for hand, k in order] -/
theorem e_byOrder {Z : Cs} {s : L2.St} {H : Hp} {Q : VK} {lo la : Addr} {us rows : List V} {es : List (Nat × Nat)} {n j h k : Nat} (hn : s[n]? = some (some (.ref lo))) (hj : s[j]? = some (some (.ref la))) (hh : h < s.length) (hk : k < s.length) (hk' : h ≠ k) (jh : j ≠ h) (jk : j ≠ k)
    (hl : H lo = some (.lst us)) (ha : All2 (PairAt H) us es) (e3 : es.length ≤ 1000) (hr : H la = some (.lst rows)) (hv : ∀ e ∈ es, ∃ a xs v, rows[e.1]? = some (V.ref a) ∧ H a = some (.lst xs) ∧ xs[e.2]? = some v)
    (q : ∀ D H', H D = none → Same H H' → H' D = some (.lst (es.map (valAt H rows))) → Q (.ref D) H') :
    tLc (iList Z.K (tVar n)) (gTup Z.K 2 (gCons (gName h) (gCons (gName k) gNil))) tYes (tOp (rIxL Z.K) (tOp (rIxL Z.K) (tVar j) (tVar h)) (tVar k)) [h, k] s H Q := by
  have al := ha.length
  refine e_lcL (ev_var hn) (SqL.of hl) (fun D i H' => Same H H' ∧ H' D = some (.lst ((es.take i).map (valAt H rows)))) (fun D hD => ⟨Same.new hD, upd_same⟩) (fun D i H' _ _ p => SqL.of (p.1 _ _ hl)) (fun D i x H' hx hD p => ?_) (fun D H' hD p => ?_)
  · obtain ⟨c, hL⟩ := p
    have hi : i < us.length := (List.getElem?_eq_some_iff.mp hx).1
    have hg : es[i]? = some (es[i]'(by omega)) := List.getElem?_eq_getElem _
    generalize es[i]'(by omega) = e at hg
    obtain ⟨a, hu, p2, rfl, e4⟩ := ha.get i hg
    rw [hx] at hu
    cases hu
    obtain ⟨a, xs, v, g1, g2, g3⟩ := hv e (List.mem_of_getElem? hg)
    have hw : (wipe s [h, k])[j]? = some (some (.ref la)) := by rw [wipe_out (by simp [jh, jk])]; exact hj
    have gh : (((wipe s [h, k]).set h (some (V.int (e.1 : Int)))).set k (some (V.int (e.2 : Int))))[h]? = some (some (V.int (e.1 : Int))) := by
      rw [List.getElem?_set_ne (fun z => hk' z.symm), List.getElem?_set_self (by rw [wipe_length]; exact hh)]
    have gk : (((wipe s [h, k]).set h (some (V.int (e.1 : Int)))).set k (some (V.int (e.2 : Int))))[k]? = some (some (V.int (e.2 : Int))) := by
      rw [List.getElem?_set_self (by rw [List.length_set, wipe_length]; exact hk)]
    have gj : (((wipe s [h, k]).set h (some (V.int (e.1 : Int)))).set k (some (V.int (e.2 : Int))))[j]? = some (some (.ref la)) := by
      rw [List.getElem?_set_ne (fun z => jk z.symm), List.getElem?_set_ne (fun z => jh z.symm)]; exact hw
    refine ⟨p2, _, rfl, SqT.of (c _ _ e4), rfl, _, _, rfl, _, _, rfl, rfl, ?_⟩
    refine ⟨by simp only [wipe, List.set_set]; rw [List.set_comm _ _ (i := h) (j := k) hk']; simp only [List.set_set], et_yes _ (iteT (ev_ixL (ev_ixL (ev_var gj) (ev_var gh) (SqL.of (c _ _ hr)) (atI_nat g1)) (ev_var gk) (SqL.of (c _ _ g2)) (atI_nat g3) _ ⟨_, hL, ?_, same_newer c hD, ?_⟩))⟩
    · rw [List.length_map, List.length_take]
      exact Nat.lt_of_le_of_lt (by omega : _ ≤ 1000) (by decide)
    · rw [upd_same, take_snoc hg, List.map_append, List.map_cons, List.map_nil, valAt_is g1 g2 g3]
  · rw [al, List.take_length] at p
    exact q D H' hD p.1 p.2
theorem eqv_done (a : Ans) : PyData.eqv (ansD a) (.str "done") = decide (a = .done) := by
  cases a with
  | done => exact (SeqAt.eqv_refl _ okD_strs.2.2.2.2.2.2.2.2.2.2.1).trans rfl
  | non => rfl
  | val v => rfl
theorem ansDps {K : PySem.W.Frag} {H : Hp} : ∀ as : List Ans, DpAll K H (as.map ansV) (as.map ansD)
  | [] => .nil
  | a :: as => .cons (ansDp a) (ansDps as)

/-! ### the law's own lists -/
theorem ixN_nat {n i : Nat} (h : i < n) : ixN n (i : Int) = some i := by
  have := ixN_pred (n := n) (c := i + 1) (by omega) (by omega)
  have e : ((i + 1 : Nat) : Int) - 1 = (i : Int) := by omega
  rw [e] at this
  exact this
theorem Lay.plus {H H1 H2 : Hp} {L : List (Addr × HO)} (l : Lay H H1 L) (c : Same H1 H2) {q : Addr} {o : HO} (hq : H1 q = none) (h2 : H2 q = some o) : Lay H H2 (L ++ [(q, o)]) := by
  refine ⟨Same.trans l.same c, ?_, fun e he => ?_⟩
  · rw [List.map_append, List.nodup_append]
    refine ⟨l.nd, by simp, fun a ha b hb => ?_⟩
    have eb : b = q := by simpa using hb
    obtain ⟨e, he, ea⟩ := List.mem_map.mp ha
    rw [eb, ← ea]
    exact fun z => by
      have := (l.there e he).2
      rw [z, hq] at this
      cases this
  · rcases List.mem_append.mp he with z | z
    · have := l.there e z
      exact ⟨this.1, c _ _ this.2⟩
    · have : e = (q, o) := by simpa using z
      subst this
      exact ⟨free_of l.same hq, h2⟩
theorem Lay.sub {H H' : Hp} {L L' : List (Addr × HO)} (l : Lay H H' L) (s : L'.Sublist L) : Lay H H' L' := ⟨l.same, (s.map _).nodup l.nd, fun e he => l.there e (s.subset he)⟩
structure D4A where
  s : Addr
  pl : Addr
  hv : Addr
  sn : Addr
  fr : Addr
def f4 (A : D4A) : List (L2.Key × V) := [(ks "pile", .ref A.pl), (ks "free", .ref A.fr), (ks "have", .ref A.hv), (ks "seen", .ref A.sn)]
theorem f4_pile (A : D4A) : valV (f4 A) (ks "pile") = some (.ref A.pl) := by kernel_rfl
theorem f4_free (A : D4A) : valV (f4 A) (ks "free") = some (.ref A.fr) := by kernel_rfl
theorem f4_have (A : D4A) : valV (f4 A) (ks "have") = some (.ref A.hv) := by kernel_rfl
theorem f4_seen (A : D4A) : valV (f4 A) (ks "seen") = some (.ref A.sn) := by kernel_rfl
theorem f4_put (A : D4A) (a : Addr) : putK (f4 A) (ks "free") (.ref a) = f4 { A with fr := a } := by kernel_rfl
def l4 (A : D4A) (z : Four) : List (Addr × HO) := [(A.s, .dK (f4 A)), (A.pl, .lst (z.pile.map natV)), (A.hv, .lst (z.have_.map natV)), (A.sn, .lst (z.seen.map natV)), (A.fr, .lst (z.free.map natV))]
def D4A.owns (A : D4A) (a : Addr) : Prop := a = A.s ∨ a = A.pl ∨ a = A.hv ∨ a = A.sn ∨ a = A.fr
section
variable {H0 H : Hp} {A : D4A} {z : Four} {h c : Nat}
theorem l4_hv (l : Lay H0 H (l4 A z)) : Lay H0 (upd H A.hv (.lst ((z.have_.map natV).set h (natV c)))) (l4 A { z with have_ := z.have_.set h c }) ∧ Chg A.owns H (upd H A.hv (.lst ((z.have_.map natV).set h (natV c)))) := by
  have l1 := l.put (i := 2) (o' := .lst ((z.have_.map natV).set h (natV c))) rfl
  refine ⟨?_, Chg.put (.inr (.inr (.inl rfl))) fun u e => ?_⟩
  · have e : (l4 A z).set 2 (A.hv, .lst ((z.have_.map natV).set h (natV c))) = l4 A { z with have_ := z.have_.set h c } := by
      unfold l4
      simp only [List.map_set]
      rfl
    rw [← e]
    exact l1
  · rw [l.get (i := 2) rfl] at e
    cases e
    exact fun z => z
theorem l4_sn (l : Lay H0 H (l4 A z)) : Lay H0 (upd H A.sn (.lst ((z.seen.map natV).set h (natV c)))) (l4 A { z with seen := z.seen.set h c }) ∧ Chg A.owns H (upd H A.sn (.lst ((z.seen.map natV).set h (natV c)))) := by
  have l1 := l.put (i := 3) (o' := .lst ((z.seen.map natV).set h (natV c))) rfl
  refine ⟨?_, Chg.put (.inr (.inr (.inr (.inl rfl)))) fun u e => ?_⟩
  · have e : (l4 A z).set 3 (A.sn, .lst ((z.seen.map natV).set h (natV c))) = l4 A { z with seen := z.seen.set h c } := by
      unfold l4
      simp only [List.map_set]
      rfl
    rw [← e]
    exact l1
  · rw [l.get (i := 3) rfl] at e
    cases e
    exact fun z => z
theorem l4_pl (l : Lay H0 H (l4 A z)) {p : List Nat} {xs : List V} (ep : xs = p.map natV) : Lay H0 (upd H A.pl (.lst xs)) (l4 A { z with pile := p }) ∧ Chg A.owns H (upd H A.pl (.lst xs)) := by
  subst ep
  have l1 := l.put (i := 1) (o' := .lst (p.map natV)) rfl
  refine ⟨l1, Chg.put (.inr (.inl rfl)) fun u e => ?_⟩
  rw [l.get (i := 1) rfl] at e
  cases e
  exact fun z => z
theorem l4_fr (l : Lay H0 H (l4 A z)) {p : List Nat} {xs : List V} (ep : xs = p.map natV) : Lay H0 (upd H A.fr (.lst xs)) (l4 A { z with free := p }) ∧ Chg A.owns H (upd H A.fr (.lst xs)) := by
  subst ep
  have l1 := l.put (i := 4) (o' := .lst (p.map natV)) rfl
  refine ⟨l1, Chg.put (.inr (.inr (.inr (.inr rfl)))) fun u e => ?_⟩
  rw [l.get (i := 4) rfl] at e
  cases e
  exact fun z => z
end
def sp_L_step (Z : Cs) : Sp := fun vs H Q _ => ∃ (A : D4A) (z : Four) (h : Nat) (v : V) (t : Tell) (H0 : Hp), vs = [.ref A.s, .int h, v] ∧ Lay H0 H (l4 A z) ∧ TellAt H v t ∧ t ≠ .rests ∧ h < z.have_.length ∧ h < z.seen.length ∧ z.fine h t ∧ z.pile.length ≤ 1000 ∧ z.free.length ≤ 1000 ∧
  ∀ A' H', Chg A.owns H H' → Lay H0 H' (l4 A' (z.step h t)) → (∀ a, A'.owns a → A.owns a ∨ H a = none) → A'.s = A.s → Q (.bl true) H'
/-- _law_step: 0 _law_s, 1 _law_hand, 2 _law_told, 3 _law_word, 4 _law_cell -/
def t_L_step (Z : Cs) : TS :=
  tSeq (tAsg (tOp (rIxT Z.K) (tVar 2) (tC (.int 0))) (gName 3))
    (tSeq (tIfS (tTest (tOp rEq (tVar 3) (tC (.str "takes")))) (tSeq (tAsg (tOp (rIxT Z.K) (tVar 2) (tC (.int 1))) (gSub (tDGet (tVar 0) (tC (.str "have"))) (tVar 1) rSetL))
    ((sDPut (tVar 0) (tC (.str "free")) (tLc (iList Z.K (tDGet (tVar 0) (tC (.str "free")))) (gName 4) (tTest (tOp (rNeD Z.K) (tVar 4) (tOp (rIxT Z.K) (tVar 2) (tC (.int 1))))) (tVar 4) [4])))) (tNext))
    (tSeq (tIfS (tTest (tOp rEq (tVar 3) (tC (.str "reads")))) ((tAsg (tOp (rIxT Z.K) (tVar 2) (tC (.int 1))) (gSub (tDGet (tVar 0) (tC (.str "seen"))) (tVar 1) rSetL))) (tNext))
    (tSeq (tIfS (tTest (tOp rEq (tVar 3) (tC (.str "exchanges")))) (tSeq (tAsg (tBM0 Z.K "list" rPop (tDGet (tVar 0) (tC (.str "pile")))) (gSub (tDGet (tVar 0) (tC (.str "have"))) (tVar 1) rSetL))
    ((tIfS ((tOr (tTest (tOp rNe (tOp (rIxL Z.K) (tDGet (tVar 0) (tC (.str "have"))) (tVar 1)) (tOp (rIxL Z.K) (tDGet (tVar 0) (tC (.str "seen"))) (tVar 1)))) (tTest (tOp (rNeD Z.K) (tOp (rIxT Z.K) (tVar 2) (tC (.int 1))) (tIf (tTest (tOp (rNeD Z.K) (tDGet (tVar 0) (tC (.str "pile"))) (tLst tNil))) (tOp (rIxL Z.K) (tDGet (tVar 0) (tC (.str "pile"))) (tUn rNegI (tC (.int 1)))) (tC (.int 0))))))) ((tRet (tC (.bl false)))) (tNext)))) (tNext))
    (tSeq (tIfS ((tAnd (tTest (tOp rEq (tVar 3) (tC (.str "ends")))) (tTest (tOp (rEqD Z.K) (tOp (rIxT Z.K) (tVar 2) (tC (.int 1))) (tC (.str "done")))))) (tSeq (tDrop (tBM Z.K "list" rAppend (tDGet (tVar 0) (tC (.str "pile"))) (tCons (tOp (rIxL Z.K) (tDGet (tVar 0) (tC (.str "have"))) (tVar 1)) tNil)))
    ((tAsg (tC (.int 0)) (gSub (tDGet (tVar 0) (tC (.str "have"))) (tVar 1) rSetL)))) ((tIfS ((tAnd (tTest (tOp rEq (tVar 3) (tC (.str "ends")))) (tTest (tOp rGtI (tOp (rIxL Z.K) (tDGet (tVar 0) (tC (.str "have"))) (tVar 1)) (tC (.int 0)))))) (tSeq (tDrop (tBM Z.K "list" rAppend (tDGet (tVar 0) (tC (.str "free"))) (tCons (tOp (rIxL Z.K) (tDGet (tVar 0) (tC (.str "have"))) (tVar 1)) tNil)))
    ((tAsg (tC (.int 0)) (gSub (tDGet (tVar 0) (tC (.str "have"))) (tVar 1) rSetL)))) (tNext))))
    ((tRet (tC (.bl true))))))))

theorem pure_L_step {Z : Cs} (vs : List V) (H : Hp) (Q : VK) (E : XK) (h : sp_L_step Z vs H Q E) : t_L_step Z { nx := fun _ H' => Q .non H', rt := Q } (start ["_law_s", "_law_hand", "_law_told", "_law_word", "_law_cell"] vs) H := by
  obtain ⟨A, z, h, v, t, H0, rfl, l, ⟨q0, rfl, h0⟩, nr, hl, sl, fine, pl, fl, q⟩ := h
  have hh : z.have_[h]? = some (z.have_.getD h 0) := by rw [List.getElem?_eq_getElem hl, getD_get (List.getElem?_eq_getElem hl)]
  have hhv : (z.have_.map natV)[h]? = some (natV (z.have_.getD h 0)) := by rw [List.getElem?_map, hh]; rfl
  have hlv : h < (z.have_.map natV).length := by rw [List.length_map]; exact hl
  have slv : h < (z.seen.map natV).length := by rw [List.length_map]; exact sl
  unfold t_L_step
  cases t with
  | rests => exact absurd rfl nr
  | links c =>
    walk_at "q"
    refine s_asg (ev_ixT (ev_var rfl) ev_c (SqT.of h0) (atI_nat (j := 0) rfl)) ?_
    walk_at "q"
    refine s_ifF (et_is (et_test (ev_eq (ev_var rfl) ev_c rfl)) (by decide +kernel)) ?_
    dsimp only [tNext]
    walk_at "q"
    refine s_ifF (et_is (et_test (ev_eq (ev_var rfl) ev_c rfl)) (by decide +kernel)) ?_
    dsimp only [tNext]
    walk_at "q"
    refine s_ifF (et_is (et_test (ev_eq (ev_var rfl) ev_c rfl)) (by decide +kernel)) ?_
    dsimp only [tNext]
    walk_at "q"
    have ne : decide (V.str "links" = V.str "ends") = false := by decide +kernel
    refine s_if_of (t_and_of ((et_test (ev_eq (x := .str "links") (ev_var rfl) ev_c rfl)) _ ?_))
    rw [ne]
    refine iteF (iteF ?_)
    refine s_if_of (t_and_of ((et_test (ev_eq (x := .str "links") (ev_var rfl) ev_c rfl)) _ ?_))
    rw [ne]
    refine iteF (iteF ?_)
    dsimp only [tNext]
    exact s_ret ev_c (q A _ (Chg.refl _ _) l (fun a h => .inl h) rfl)
  | marks c =>
    walk_at "q"
    refine s_asg (ev_ixT (ev_var rfl) ev_c (SqT.of h0) (atI_nat (j := 0) rfl)) ?_
    walk_at "q"
    refine s_ifF (et_is (et_test (ev_eq (ev_var rfl) ev_c rfl)) (by decide +kernel)) ?_
    dsimp only [tNext]
    walk_at "q"
    refine s_ifF (et_is (et_test (ev_eq (ev_var rfl) ev_c rfl)) (by decide +kernel)) ?_
    dsimp only [tNext]
    walk_at "q"
    refine s_ifF (et_is (et_test (ev_eq (ev_var rfl) ev_c rfl)) (by decide +kernel)) ?_
    dsimp only [tNext]
    walk_at "q"
    have ne : decide (V.str "marks" = V.str "ends") = false := by decide +kernel
    refine s_if_of (t_and_of ((et_test (ev_eq (x := .str "marks") (ev_var rfl) ev_c rfl)) _ ?_))
    rw [ne]
    refine iteF (iteF ?_)
    refine s_if_of (t_and_of ((et_test (ev_eq (x := .str "marks") (ev_var rfl) ev_c rfl)) _ ?_))
    rw [ne]
    refine iteF (iteF ?_)
    dsimp only [tNext]
    exact s_ret ev_c (q A _ (Chg.refl _ _) l (fun a h => .inl h) rfl)
  | looks c =>
    walk_at "q"
    refine s_asg (ev_ixT (ev_var rfl) ev_c (SqT.of h0) (atI_nat (j := 0) rfl)) ?_
    walk_at "q"
    refine s_ifF (et_is (et_test (ev_eq (ev_var rfl) ev_c rfl)) (by decide +kernel)) ?_
    dsimp only [tNext]
    walk_at "q"
    refine s_ifF (et_is (et_test (ev_eq (ev_var rfl) ev_c rfl)) (by decide +kernel)) ?_
    dsimp only [tNext]
    walk_at "q"
    refine s_ifF (et_is (et_test (ev_eq (ev_var rfl) ev_c rfl)) (by decide +kernel)) ?_
    dsimp only [tNext]
    walk_at "q"
    have ne : decide (V.str "looks" = V.str "ends") = false := by decide +kernel
    refine s_if_of (t_and_of ((et_test (ev_eq (x := .str "looks") (ev_var rfl) ev_c rfl)) _ ?_))
    rw [ne]
    refine iteF (iteF ?_)
    refine s_if_of (t_and_of ((et_test (ev_eq (x := .str "looks") (ev_var rfl) ev_c rfl)) _ ?_))
    rw [ne]
    refine iteF (iteF ?_)
    dsimp only [tNext]
    exact s_ret ev_c (q A _ (Chg.refl _ _) l (fun a h => .inl h) rfl)
  | follows c =>
    walk_at "q"
    refine s_asg (ev_ixT (ev_var rfl) ev_c (SqT.of h0) (atI_nat (j := 0) rfl)) ?_
    walk_at "q"
    refine s_ifF (et_is (et_test (ev_eq (ev_var rfl) ev_c rfl)) (by decide +kernel)) ?_
    dsimp only [tNext]
    walk_at "q"
    refine s_ifF (et_is (et_test (ev_eq (ev_var rfl) ev_c rfl)) (by decide +kernel)) ?_
    dsimp only [tNext]
    walk_at "q"
    refine s_ifF (et_is (et_test (ev_eq (ev_var rfl) ev_c rfl)) (by decide +kernel)) ?_
    dsimp only [tNext]
    walk_at "q"
    have ne : decide (V.str "follows" = V.str "ends") = false := by decide +kernel
    refine s_if_of (t_and_of ((et_test (ev_eq (x := .str "follows") (ev_var rfl) ev_c rfl)) _ ?_))
    rw [ne]
    refine iteF (iteF ?_)
    refine s_if_of (t_and_of ((et_test (ev_eq (x := .str "follows") (ev_var rfl) ev_c rfl)) _ ?_))
    rw [ne]
    refine iteF (iteF ?_)
    dsimp only [tNext]
    exact s_ret ev_c (q A _ (Chg.refl _ _) l (fun a h => .inl h) rfl)
  | misses =>
    walk_at "q"
    refine s_asg (ev_ixT (ev_var rfl) ev_c (SqT.of h0) (atI_nat (j := 0) rfl)) ?_
    walk_at "q"
    refine s_ifF (et_is (et_test (ev_eq (ev_var rfl) ev_c rfl)) (by decide +kernel)) ?_
    dsimp only [tNext]
    walk_at "q"
    refine s_ifF (et_is (et_test (ev_eq (ev_var rfl) ev_c rfl)) (by decide +kernel)) ?_
    dsimp only [tNext]
    walk_at "q"
    refine s_ifF (et_is (et_test (ev_eq (ev_var rfl) ev_c rfl)) (by decide +kernel)) ?_
    dsimp only [tNext]
    walk_at "q"
    have ne : decide (V.str "misses" = V.str "ends") = false := by decide +kernel
    refine s_if_of (t_and_of ((et_test (ev_eq (x := .str "misses") (ev_var rfl) ev_c rfl)) _ ?_))
    rw [ne]
    refine iteF (iteF ?_)
    refine s_if_of (t_and_of ((et_test (ev_eq (x := .str "misses") (ev_var rfl) ev_c rfl)) _ ?_))
    rw [ne]
    refine iteF (iteF ?_)
    dsimp only [tNext]
    exact s_ret ev_c (q A _ (Chg.refl _ _) l (fun a h => .inl h) rfl)
  | reads c =>
    walk_at "q"
    refine s_asg (ev_ixT (ev_var rfl) ev_c (SqT.of h0) (atI_nat (j := 0) rfl)) ?_
    walk_at "q"
    refine s_ifF (et_is (et_test (ev_eq (ev_var rfl) ev_c rfl)) (by decide +kernel)) ?_
    dsimp only [tNext]
    walk_at "q"
    refine s_ifT (et_is (et_test (ev_eq (ev_var rfl) ev_c rfl)) (decide_eq_true rfl)) ?_
    refine s_setL (j := h) (ev_ixT (ev_var rfl) ev_c (SqT.of h0) (atI_nat (j := 1) rfl)) (ev_dg (ev_var rfl) (l.get (i := 0) rfl) (f4_seen A)) (ev_var rfl) (l.get (i := 3) rfl) (ixN_nat slv) ?_
    obtain ⟨l1, C1⟩ := l4_sn (h := h) (c := c) l
    show ({ nx := _, rt := Q : Ends }).nx _ (upd H A.sn (.lst ((z.seen.map natV).set h (natV c))))
    generalize upd H A.sn (.lst ((z.seen.map natV).set h (natV c))) = H1 at l1 C1 ⊢
    dsimp only
    walk_at "q"
    refine s_ifF (et_is (et_test (ev_eq (ev_var rfl) ev_c rfl)) (by decide +kernel)) ?_
    dsimp only [tNext]
    walk_at "q"
    have ne : decide (V.str "reads" = V.str "ends") = false := by decide +kernel
    refine s_if_of (t_and_of ((et_test (ev_eq (x := .str "reads") (ev_var rfl) ev_c rfl)) _ ?_))
    rw [ne]
    refine iteF (iteF ?_)
    refine s_if_of (t_and_of ((et_test (ev_eq (x := .str "reads") (ev_var rfl) ev_c rfl)) _ ?_))
    rw [ne]
    refine iteF (iteF ?_)
    dsimp only [tNext]
    exact s_ret ev_c (q A _ C1 l1 (fun a h => .inl h) rfl)
  | takes c =>
    walk_at "q"
    refine s_asg (ev_ixT (ev_var rfl) ev_c (SqT.of h0) (atI_nat (j := 0) rfl)) ?_
    walk_at "q"
    refine s_ifT (et_is (et_test (ev_eq (ev_var rfl) ev_c rfl)) (decide_eq_true rfl)) ?_
    walk_at "q"
    refine s_setL (j := h) (ev_ixT (ev_var rfl) ev_c (SqT.of h0) (atI_nat (j := 1) rfl)) (ev_dg (ev_var rfl) (l.get (i := 0) rfl) (f4_have A)) (ev_var rfl) (l.get (i := 2) rfl) (ixN_nat hlv) ?_
    obtain ⟨l1, C1⟩ := l4_hv (h := h) (c := c) l
    show ({ nx := _, rt := Q : Ends }).nx _ (upd H A.hv (.lst ((z.have_.map natV).set h (natV c))))
    generalize upd H A.hv (.lst ((z.have_.map natV).set h (natV c))) = H1 at l1 C1 ⊢
    have h1 := C1.tup _ _ h0
    dsimp only
    refine s_dnew (e_lcL (ev_dg (ev_var rfl) (l1.get (i := 0) rfl) (f4_free A)) (SqL.of (l1.get (i := 4) rfl)) (fun D i H' => Same H1 H' ∧ H' D = some (.lst (((z.free.take i).filter fun x => x != c).map natV))) (fun D hD => ⟨Same.new hD, upd_same⟩) (fun D i H' _ _ p => SqL.of (p.1 _ _ (l1.get (i := 4) rfl))) (fun D i x H' hx hD p => ?_) (fun D H' hD p => ?_))
    · obtain ⟨k, hL⟩ := p
      obtain ⟨y, hy, rfl⟩ := map_get hx
      refine ⟨rfl, ?_⟩
      refine et_test (ev_neD (K := Z.K) (d := .int y) (e := .int c) (ev_var (v := natV y) rfl) (ev_ixT (v := natV c) (ev_var rfl) ev_c (SqT.of (k _ _ h1)) (atI_nat (j := 1) rfl)) (.int _) (.int _) ((okD_int _).shaped (by decide)) ((okD_int _).shaped (by decide))) _ ?_
      have e : PyData.eqv (.int (y : Int)) (.int (c : Int)) = ((y : Int) == (c : Int)) := rfl
      rw [e]
      by_cases n : y = c
      · subst n
        have e2 : ((y : Int) == (y : Int)) = true := beq_self_eq_true _
        rw [e2]
        refine iteF ⟨k, ?_⟩
        rw [hL, take_snoc hy, List.filter_append]
        simp
      · have e2 : ((y : Int) == (c : Int)) = false := beq_eq_false_iff_ne.mpr fun z => n (by omega)
        rw [e2]
        refine iteT (ev_var (v := natV y) rfl _ ⟨_, hL, ?_, same_newer k hD, ?_⟩)
        · rw [List.length_map]
          refine Nat.lt_of_le_of_lt (List.length_filter_le _ _) ?_
          rw [List.length_take]
          exact Nat.lt_of_le_of_lt (by omega : _ ≤ 1000) (by decide)
        · rw [upd_same, take_snoc hy, List.filter_append, List.map_append]
          have : (y != c) = true := by simpa using n
          simp [this]
    · obtain ⟨k, hL⟩ := p
      rw [List.length_map, List.take_length] at hL
      have l2 := l1.plus k hD hL
      refine s_dput ev_c (ev_var rfl) (l2.get (i := 0) rfl) (by show 4 < 1000; decide) ?_
      rw [f4_put]
      have l3 := l2.put (i := 0) (o' := .dK (f4 { A with fr := D })) rfl
      have l5 : Lay H0 (upd H' A.s (.dK (f4 { A with fr := D }))) (l4 { A with fr := D } (z.step h (.takes c))) := l3.sub (by
        refine .cons_cons _ (.cons_cons _ (.cons_cons _ (.cons_cons _ (.cons _ (.cons_cons _ .slnil)))))
        )
      have C2 : Chg A.owns H' (upd H' A.s (.dK (f4 { A with fr := D }))) := Chg.put (.inl rfl) fun u e => by
        rw [l2.get (i := 0) rfl] at e
        cases e
        exact fun z => z
      have C3 := (C1.trans (Chg.same k)).trans C2
      generalize upd H' A.s (.dK (f4 { A with fr := D })) = H3 at l5 C3 ⊢
      have fD : H D = none := by
        cases e : H D with
        | none => rfl
        | some o =>
          by_cases n : A.owns D
          · have : H1 D ≠ none := by
              rcases n with n | n | n | n | n <;> rw [n]
              · rw [l1.get (i := 0) rfl]; exact fun z => by cases z
              · rw [l1.get (i := 1) rfl]; exact fun z => by cases z
              · rw [l1.get (i := 2) rfl]; exact fun z => by cases z
              · rw [l1.get (i := 3) rfl]; exact fun z => by cases z
              · rw [l1.get (i := 4) rfl]; exact fun z => by cases z
            exact absurd hD this
          · have := C1.keep _ _ e n
            rw [hD] at this
            cases this
      dsimp only
      walk_at "q"
      refine s_ifF (et_is (et_test (ev_eq (ev_var rfl) ev_c rfl)) (by decide +kernel)) ?_
      dsimp only [tNext]
      walk_at "q"
      refine s_ifF (et_is (et_test (ev_eq (ev_var rfl) ev_c rfl)) (by decide +kernel)) ?_
      dsimp only [tNext]
      walk_at "q"
      have ne : decide (V.str "takes" = V.str "ends") = false := by decide +kernel
      refine s_if_of (t_and_of ((et_test (ev_eq (x := .str "takes") (ev_var rfl) ev_c rfl)) _ ?_))
      rw [ne]
      refine iteF (iteF ?_)
      refine s_if_of (t_and_of ((et_test (ev_eq (x := .str "takes") (ev_var rfl) ev_c rfl)) _ ?_))
      rw [ne]
      refine iteF (iteF ?_)
      dsimp only [tNext]
      refine s_ret ev_c (q { A with fr := D } _ C3 l5 (fun a h => ?_) rfl)
      rcases h with h | h | h | h | h
      · exact .inl (.inl h)
      · exact .inl (.inr (.inl h))
      · exact .inl (.inr (.inr (.inl h)))
      · exact .inl (.inr (.inr (.inr (.inl h))))
      · exact .inr (by rw [h]; exact fD)
  | exchanges c =>
    walk_at "q"
    refine s_asg (ev_ixT (ev_var rfl) ev_c (SqT.of h0) (atI_nat (j := 0) rfl)) ?_
    walk_at "q"
    refine s_ifF (et_is (et_test (ev_eq (ev_var rfl) ev_c rfl)) (by decide +kernel)) ?_
    dsimp only [tNext]
    walk_at "q"
    refine s_ifF (et_is (et_test (ev_eq (ev_var rfl) ev_c rfl)) (by decide +kernel)) ?_
    dsimp only [tNext]
    walk_at "q"
    refine s_ifT (et_is (et_test (ev_eq (ev_var rfl) ev_c rfl)) (decide_eq_true rfl)) ?_
    obtain ⟨f1, f2, f3⟩ := fine
    have zl : z.pile = z.pile.dropLast ++ [z.pile.getLastD 0] := by
      rcases List.eq_nil_or_concat z.pile with e | ⟨L, b, e⟩
      · exact absurd e f1
      · rw [e]
        simp
    have hy : (z.pile.map natV)[(z.pile.map natV).length - 1]? = some (natV (z.pile.getLastD 0)) := by
      rw [List.length_map, List.getElem?_map]
      generalize z.pile.getLastD 0 = b at zl
      rw [zl]
      simp
    walk_at "q"
    refine s_asg_of (ev_dg (ev_var rfl) (l.get (i := 0) rfl) (f4_pile A) _ ⟨.inl ⟨rfl, _, SqL.of (l.get (i := 1) rfl)⟩, A.pl, _, _, rfl, rfl, l.get (i := 1) rfl, hy, ?_⟩)
    obtain ⟨l1, C1⟩ := l4_pl l (p := z.pile.dropLast) (xs := (z.pile.map natV).dropLast) List.map_dropLast.symm
    show gSub _ _ _ _ _ (upd H A.pl (.lst (z.pile.map natV).dropLast)) _
    generalize upd H A.pl (.lst (z.pile.map natV).dropLast) = H1 at l1 C1 ⊢
    refine ev_dg (ev_var rfl) (l1.get (i := 0) rfl) (f4_have A) _ (ev_var rfl _ ⟨A.hv, _, _, h, rfl, rfl, l1.get (i := 2) rfl, ixN_nat hlv, ?_⟩)
    obtain ⟨l2, C2⟩ := l4_hv (h := h) (c := z.pile.getLastD 0) l1
    have C3 := C1.trans C2
    show ({ nx := _, rt := Q : Ends }).nx _ (upd H1 A.hv (.lst ((z.have_.map natV).set h (natV (z.pile.getLastD 0)))))
    have gh : ((z.have_.set h (z.pile.getLastD 0)).map natV)[h]? = some (natV (z.pile.getLastD 0)) := by
      rw [List.getElem?_map, List.getElem?_set_self hl]
      rfl
    have gs : (z.seen.map natV)[h]? = some (natV (z.pile.getLastD 0)) := by rw [List.getElem?_map, f2]; rfl
    generalize upd H1 A.hv (.lst ((z.have_.map natV).set h (natV (z.pile.getLastD 0)))) = H2 at l2 C3 ⊢
    have h2 := C3.tup _ _ h0
    dsimp only
    refine s_if_of (t_or_of ((et_test (ev_ne (ev_ixL (ev_dg (ev_var rfl) (l2.get (i := 0) rfl) (f4_have A)) (ev_var rfl) (SqL.of (l2.get (i := 2) rfl)) (atI_nat gh)) (ev_ixL (ev_dg (ev_var rfl) (l2.get (i := 0) rfl) (f4_seen A)) (ev_var rfl) (SqL.of (l2.get (i := 3) rfl)) (atI_nat gs)) rfl)) _ ?_))
    rw [decide_eq_true rfl]
    refine iteF ?_
    refine t_test_of (t_op_of (ev_ixT (v := natV c) (ev_var rfl) ev_c (SqT.of h2) (atI_nat (j := 1) rfl) _ (t_ifE_of (t_test_of (t_op_of (ev_dg (ev_var rfl) (l2.get (i := 0) rfl) (f4_pile A) _ (e_lst ea_nil (by show 0 ≤ 1000; decide) fun le hle => ?_)))))))
    have k3 : Same H2 (upd H2 le (.lst [])) := Same.new hle
    have e3 : (upd H2 le (.lst [])) le = some (.lst []) := upd_same
    have l3 := l2.more k3
    have C4 := C3.trans (Chg.same k3)
    generalize upd H2 le (.lst []) = H3 at k3 e3 l3 C4 ⊢
    have dpp : Dp Z.K H3 (.ref A.pl) (.list ((z.pile.dropLast.map Int.ofNat).map PyData.int)) := by
      have := l3.get (i := 1) rfl
      rw [natV_int] at this
      exact .lst (SqL.of this) (dp_ints _)
    refine ⟨_, .list [], dpp, .lst (SqL.of e3) .nil, shaped_ints _, rfl, ⟨_, rfl, ?_⟩⟩
    have e1 : ∀ xs : List Int, PyData.eqv (.list (xs.map PyData.int)) (.list []) = xs.isEmpty := by
      intro xs
      cases xs with
      | nil => rfl
      | cons a l => rfl
    rw [e1]
    rcases List.eq_nil_or_concat z.pile.dropLast with ed | ⟨L, b, ed⟩
    · have c0 : c = 0 := by rw [f3, ed]; rfl
      have ie : ((z.pile.dropLast.map Int.ofNat)).isEmpty = true := by rw [ed]; rfl
      rw [ie]
      refine iteF (ev_c _ ?_)
      have ec : (V.int 0) = natV c := by rw [c0]; rfl
      rw [ec]
      refine ne_same (d := .int c) (.int _) (.int _) (okD_int _) (by decide) ⟨false, rfl, iteF ?_⟩
      dsimp only [tNext]
      walk_at "q"
      have ne : decide (V.str "exchanges" = V.str "ends") = false := by decide +kernel
      refine s_if_of (t_and_of ((et_test (ev_eq (x := .str "exchanges") (ev_var rfl) ev_c rfl)) _ ?_))
      rw [ne]
      refine iteF (iteF ?_)
      refine s_if_of (t_and_of ((et_test (ev_eq (x := .str "exchanges") (ev_var rfl) ev_c rfl)) _ ?_))
      rw [ne]
      refine iteF (iteF ?_)
      dsimp only [tNext]
      exact s_ret ev_c (q A _ C4 l3 (fun a h => .inl h) rfl)
    · have cb : c = b := by rw [f3, ed]; simp
      have ie : ((z.pile.dropLast.map Int.ofNat)).isEmpty = false := by rw [ed]; simp
      rw [ie]
      have el := l3.get (i := 1) rfl
      have el2 : z.pile.dropLast.map natV = L.map natV ++ [natV b] := by rw [ed]; simp
      refine iteT (ev_ixL (ev_dg (ev_var rfl) (l3.get (i := 0) rfl) (f4_pile A)) (ev_neg ev_c) (SqL.of (xs := L.map natV ++ [natV b]) (by rw [← el2]; exact el)) (atI_last _ _) _ ?_)
      rw [← cb]
      refine ne_same (d := .int c) (.int _) (.int _) (okD_int _) (by decide) ⟨false, rfl, iteF ?_⟩
      dsimp only [tNext]
      walk_at "q"
      have ne : decide (V.str "exchanges" = V.str "ends") = false := by decide +kernel
      refine s_if_of (t_and_of ((et_test (ev_eq (x := .str "exchanges") (ev_var rfl) ev_c rfl)) _ ?_))
      rw [ne]
      refine iteF (iteF ?_)
      refine s_if_of (t_and_of ((et_test (ev_eq (x := .str "exchanges") (ev_var rfl) ev_c rfl)) _ ?_))
      rw [ne]
      refine iteF (iteF ?_)
      dsimp only [tNext]
      exact s_ret ev_c (q A _ C4 l3 (fun a h => .inl h) rfl)
  | ends a =>
    walk_at "q"
    refine s_asg (ev_ixT (ev_var rfl) ev_c (SqT.of h0) (atI_nat (j := 0) rfl)) ?_
    walk_at "q"
    refine s_ifF (et_is (et_test (ev_eq (ev_var rfl) ev_c rfl)) (by decide +kernel)) ?_
    dsimp only [tNext]
    walk_at "q"
    refine s_ifF (et_is (et_test (ev_eq (ev_var rfl) ev_c rfl)) (by decide +kernel)) ?_
    dsimp only [tNext]
    walk_at "q"
    refine s_ifF (et_is (et_test (ev_eq (ev_var rfl) ev_c rfl)) (by decide +kernel)) ?_
    dsimp only [tNext]
    walk_at "q"
    refine s_if_of (t_and_of ((et_test (ev_eq (x := .str "ends") (ev_var rfl) ev_c rfl)) _ ?_))
    rw [decide_eq_true rfl]
    refine iteT ?_
    refine t_test_of (t_op_of (ev_ixT (v := ansV a) (ev_var rfl) ev_c (SqT.of h0) (atI_nat (j := 1) rfl) _ (ev_c _ ⟨ansD a, .str "done", ansDp a, .str _, (okD_ans _).shaped (by decide), okD_strs.2.2.2.2.2.2.2.2.2.2.shaped (by decide), ⟨_, rfl, ?_⟩⟩)))
    rw [eqv_done]
    have sz : 1000 < sizeLine := by decide
    by_cases ea : a = .done
    · subst ea
      rw [decide_eq_true rfl]
      refine iteT ?_
      walk_at "q"
      obtain ⟨l1, C1⟩ := l4_pl l (p := z.pile ++ [z.have_.getD h 0]) (xs := z.pile.map natV ++ [natV (z.have_.getD h 0)]) (by simp)
      refine s_app (ev_dg (ev_var rfl) (l.get (i := 0) rfl) (f4_pile A)) (l.get (i := 1) rfl) (ev_ixL (ev_dg (ev_var rfl) (l.get (i := 0) rfl) (f4_have A)) (ev_var rfl) (SqL.of (l.get (i := 2) rfl)) (atI_nat hhv)) (by rw [List.length_map]; omega) ?_
      show ({ nx := _, rt := _ : Ends }).nx _ (upd H A.pl (.lst (z.pile.map natV ++ [natV (z.have_.getD h 0)])))
      generalize upd H A.pl (.lst (z.pile.map natV ++ [natV (z.have_.getD h 0)])) = H1 at l1 C1 ⊢
      obtain ⟨l2, C2⟩ := l4_hv (h := h) (c := 0) l1
      have C3 := C1.trans C2
      dsimp only
      refine s_setL (j := h) (v := natV 0) ev_c (ev_dg (ev_var rfl) (l1.get (i := 0) rfl) (f4_have A)) (ev_var rfl) (l1.get (i := 2) rfl) (ixN_nat hlv) ?_
      dsimp only
      exact s_ret (v := .bl true) ev_c (q A _ C3 l2 (fun a h => .inl h) rfl)
    · rw [decide_eq_false ea]
      refine iteF ?_
      refine s_if_of (t_and_of ((et_test (ev_eq (x := .str "ends") (ev_var rfl) ev_c rfl)) _ ?_))
      rw [decide_eq_true rfl]
      refine iteT ?_
      refine et_test (ev_gt (i := ((z.have_.getD h 0 : Nat) : Int)) (j := 0) (ev_ixL (ev_dg (ev_var rfl) (l.get (i := 0) rfl) (f4_have A)) (ev_var rfl) (SqL.of (l.get (i := 2) rfl)) (atI_nat hhv)) ev_c) _ ?_
      have es : z.step h (.ends a) = if 0 < z.have_.getD h 0 then { z with free := z.free ++ [z.have_.getD h 0], have_ := z.have_.set h 0 } else z := by
        cases a with
        | done => exact absurd rfl ea
        | non => rfl
        | val v => rfl
      by_cases hp : 0 < z.have_.getD h 0
      · rw [if_pos hp] at es
        rw [es] at q
        rw [decide_eq_true (by omega)]
        refine iteT ?_
        walk_at "q"
        obtain ⟨l1, C1⟩ := l4_fr l (p := z.free ++ [z.have_.getD h 0]) (xs := z.free.map natV ++ [natV (z.have_.getD h 0)]) (by simp)
        refine s_app (ev_dg (ev_var rfl) (l.get (i := 0) rfl) (f4_free A)) (l.get (i := 4) rfl) (ev_ixL (ev_dg (ev_var rfl) (l.get (i := 0) rfl) (f4_have A)) (ev_var rfl) (SqL.of (l.get (i := 2) rfl)) (atI_nat hhv)) (by rw [List.length_map]; omega) ?_
        show ({ nx := _, rt := _ : Ends }).nx _ (upd H A.fr (.lst (z.free.map natV ++ [natV (z.have_.getD h 0)])))
        generalize upd H A.fr (.lst (z.free.map natV ++ [natV (z.have_.getD h 0)])) = H1 at l1 C1 ⊢
        obtain ⟨l2, C2⟩ := l4_hv (h := h) (c := 0) l1
        have C3 := C1.trans C2
        dsimp only
        refine s_setL (j := h) (v := natV 0) ev_c (ev_dg (ev_var rfl) (l1.get (i := 0) rfl) (f4_have A)) (ev_var rfl) (l1.get (i := 2) rfl) (ixN_nat hlv) ?_
        dsimp only
        exact s_ret (v := .bl true) ev_c (q A _ C3 l2 (fun a h => .inl h) rfl)
      · rw [if_neg hp] at es
        rw [es] at q
        rw [decide_eq_false (by omega)]
        refine iteF ?_
        dsimp only [tNext]
        exact s_ret ev_c (q A _ (Chg.refl _ _) l (fun a h => .inl h) rfl)
end SS

set_option Elab.async false
set_option linter.all false
set_option maxRecDepth 100000
set_option maxHeartbeats 4000000
namespace SS
open PySem L2
local macro_rules | `(tactic| walk_at "q") => `(tactic| ((try dsimp only); refine s_seq ?_))

theorem t_rev4_of {K : PySem.W.Frag} {te : TE} {s : L2.St} {H : Hp} {Q : VK} {a : Addr} {xs : List V} (h : Ev te s H (.ref a)) (hx : SqL K H a xs) (q : ∀ p, H p = none → Q (.ref p) (upd H p (.lst xs.reverse))) : tRevL K te s H Q := h _ ⟨a, xs, rfl, hx, q⟩
theorem nat_eqv (a b : Nat) : decide (natV a = natV b) = decide (a = b) := decide_eq_decide.mpr ⟨fun z => by injection z with z; omega, fun z => by rw [z]⟩
theorem natD {K : PySem.W.Frag} {H : Hp} {a : Addr} {l : List Nat} (h : H a = some (.lst (l.map natV))) : Dp K H (.ref a) (.list ((l.map Int.ofNat).map PyData.int)) := by
  rw [natV_int] at h
  exact .lst (SqL.of h) (dp_ints _)
theorem small_natl (l : List Nat) (h : l.length ≤ 1000) : Small (.list ((l.map Int.ofNat).map PyData.int)) := small_ints _ (by rw [List.length_map]; omega)
/-- [cell for cell in s["have"] if cell > 0] -/
theorem e_pos {Z : Cs} {s : L2.St} {H : Hp} {Q : VK} {tl : TE} {l : Addr} {ns : List Nat} {k : Nat} (he : Ev tl s H (.ref l)) (hl : H l = some (.lst (ns.map natV))) (hk : k < s.length) (h3 : ns.length ≤ 1000)
    (q : ∀ D H', H D = none → Same H H' → H' D = some (.lst ((ns.filter fun c => decide (0 < c)).map natV)) → Q (.ref D) H') :
    tLc (iList Z.K tl) (gName k) (tTest (tOp rGtI (tVar k) (tC (.int 0)))) (tVar k) [k] s H Q := by
  refine e_lcL he (SqL.of hl) (fun D i H' => Same H H' ∧ H' D = some (.lst (((ns.take i).filter fun c => decide (0 < c)).map natV))) (fun D hD => ⟨Same.new hD, upd_same⟩) (fun D i H' _ _ p => SqL.of (p.1 _ _ hl)) (fun D i x H' hx hD p => ?_) (fun D H' hD p => ?_)
  · obtain ⟨c, hL⟩ := p
    obtain ⟨y, hy, rfl⟩ := map_get hx
    have gk : ((wipe s [k]).set k (some (natV y)))[k]? = some (some (natV y)) := by rw [List.getElem?_set_self (by rw [wipe_length]; exact hk)]
    refine ⟨by simp only [wipe, List.set_set], et_test (ev_gt (i := (y : Int)) (j := 0) (ev_var gk) ev_c) _ ?_⟩
    have eg : decide ((0 : Int) < (y : Int)) = decide (0 < y) := decide_eq_decide.mpr ⟨fun z => by omega, fun z => by omega⟩
    rw [eg]
    by_cases e : 0 < y
    · rw [decide_eq_true e]
      refine iteT (ev_var gk _ ⟨_, hL, ?_, same_newer c hD, ?_⟩)
      · rw [List.length_map]
        refine Nat.lt_of_le_of_lt (List.length_filter_le _ _) ?_
        rw [List.length_take]
        exact Nat.lt_of_le_of_lt (by omega : _ ≤ 1000) (by decide)
      · rw [upd_same, take_snoc hy, List.filter_append, List.map_append]
        simp [e]
    · rw [decide_eq_false e]
      refine iteF ⟨c, ?_⟩
      rw [hL, take_snoc hy, List.filter_append]
      simp [e]
  · rw [List.length_map, List.take_length] at p
    exact q D H' hD p.1 p.2
theorem chain_down {links : List Nat} : ∀ {p : List Nat} {t : Nat}, chain links t p → t = (0 :: p.reverse).getLastD 0 ∧ ∀ (i c : Nat), p.reverse[i]? = some c → (0 :: p.reverse)[i]? = some (links.getD (c - 1) 0)
  | [], t, h => ⟨h, fun i c e => by simp at e⟩
  | x :: p, t, h => by
    obtain ⟨rfl, h0, h1⟩ := h
    obtain ⟨e1, e2⟩ := chain_down h1
    refine ⟨by rw [List.reverse_cons, ← List.cons_append, List.getLastD_concat], fun i c e => ?_⟩
    rw [List.reverse_cons] at e ⊢
    rw [← List.cons_append]
    by_cases hi : i < p.reverse.length
    · rw [List.getElem?_append_left hi] at e
      rw [List.getElem?_append_left (by rw [List.length_cons]; omega)]
      exact e2 i c e
    · have hi2 : i = p.reverse.length := by
        have := (List.getElem?_eq_some_iff.mp e).1
        rw [List.length_append, List.length_singleton] at this
        omega
      subst hi2
      rw [List.getElem?_append_right (Nat.le_refl _), Nat.sub_self] at e
      have ec : t = c := by simpa using e
      subst ec
      rw [List.getElem?_append_left (by rw [List.length_cons]; omega), e1]
      generalize p.reverse = l
      rw [List.getLastD_eq_getLast?, List.getLast?_eq_getElem?]
      have e9 : (0 :: l).length - 1 = l.length := by rw [List.length_cons]; omega
      rw [e9]
      have hlt : l.length < (0 :: l).length := by rw [List.length_cons]; omega
      rw [List.getElem?_eq_getElem hlt]
      rfl
def sp_L_is_right (Z : Cs) : Sp := fun vs H Q _ => ∃ (A : MA) (B : D4A) (z : Four) (m : M) (values : List Int) (p : List Nat) (ps : List (List Deed)) (r : Rule) (H0 : Hp), vs = [.ref A.p, .ref B.s] ∧ MachAt Z H A m ∧ Lay H0 H (l4 B z) ∧ z.at m p ∧ Lin values m p ∧ Fine ps r m ∧ ∀ H', Same H H' → Q (.bl true) H'
/-- _law_is_right: 0 _law_machine, 1 _law_s, 2 _law_down, 3 _law_have, 4 _law_cell, 5 _law_nexts, 6 _law_at -/
def t_L_is_right (Z : Cs) : TS :=
  tSeq (tAsg (tRevL Z.K (tDGet (tVar 1) (tC (.str "pile")))) (gName 2))
    (tSeq (tAsg (tLc (iList Z.K (tDGet (tVar 1) (tC (.str "have")))) (gName 4) (tTest (tOp rGtI (tVar 4) (tC (.int 0)))) (tVar 4) [4]) (gName 3))
    (tSeq (tAsg (tMeth Z.M "nexts" (sp_M_nexts Z) [] E0 (tVar 0) tNil) (gName 5))
    (tSeq (tIfS ((tOr (tNot (tB (tCall (sp_L_like Z 6) [] E0 (tCons (tMeth Z.M "pile" (sp_M_pile Z) [] E0 (tVar 0) tNil) (tCons (tVar 2) tNil))))) (tNot (tB (tCall (sp_L_like Z 6) [] E0 (tCons (tMeth Z.M "free" (sp_M_free Z) [] E0 (tVar 0) tNil) (tCons (tDGet (tVar 1) (tC (.str "free"))) tNil))))))) ((tRet (tC (.bl false)))) (tNext))
    (tSeq (tFor (iRng1 (tCons (tCB (rLen1 Z.K) (tCons (tDGet (tVar 1) (tC (.str "pile"))) tNil)) tNil)) (gName 6) ((tIfS (tTest (tOp rNe (tOp (rIxL Z.K) (tVar 5) (tOp rSubI (tOp (rIxL Z.K) (tDGet (tVar 1) (tC (.str "pile"))) (tVar 6)) (tC (.int 1)))) (tOp (rIxL Z.K) (tOp rCat (tLst (tCons (tC (.int 0)) tNil)) (tDGet (tVar 1) (tC (.str "pile")))) (tVar 6)))) ((tRet (tC (.bl false)))) (tNext))))
    ((tRet (tOp (rEqD Z.K) (tCB (rSorted Z.K) (tCons (tOp rCat (tOp rCat (tVar 2) (tDGet (tVar 1) (tC (.str "free")))) (tVar 3)) tNil)) (tLstRg (tRg2 (tC (.int 1)) (tOp rAddI (tCB (rLen1 Z.K) (tCons (tVar 5) tNil)) (tC (.int 1))))))))))))

theorem pure_L_is_right {Z : Cs} (vs : List V) (H : Hp) (Q : VK) (E : XK) (h : sp_L_is_right Z vs H Q E) : t_L_is_right Z { nx := fun _ H' => Q .non H', rt := Q } (start ["_law_machine", "_law_s", "_law_down", "_law_have", "_law_cell", "_law_nexts", "_law_at"] vs) H := by
  obtain ⟨A, B, z, m, values, p, ps, r, H0, rfl, T, l, az, L, f, q⟩ := h
  have wn := f.wn
  have hn := f.hn
  have h3 := f.plen
  have wf := f.wf
  have plen : p.length ≤ 18 := Nat.le_trans (nodup_len m.worths.length L.nd L.pin) wn
  have flen : m.freed.length ≤ 18 := Nat.le_trans (nodup_len m.worths.length L.fd fun c hc => ⟨(L.fin c hc).1, (L.fin c hc).2.1⟩) wn
  have hlen : m.heldL.length ≤ 3 := by
    unfold M.heldL
    have := List.length_filter_le (fun c => decide (0 < c)) (m.hands.map (·.cell))
    rw [List.length_map] at this
    omega
  have hz : z.have_ = m.hands.map (·.cell) := az.have_
  unfold t_L_is_right
  walk_at "q"
  refine s_asg_of (t_rev4_of (ev_dg (ev_var rfl) (l.get (i := 0) rfl) (f4_pile B)) (SqL.of (l.get (i := 1) rfl)) fun ld hld => ?_)
  have k1 : Same H (upd H ld (.lst (z.pile.map natV).reverse)) := Same.new hld
  have e1 : (upd H ld (.lst (z.pile.map natV).reverse)) ld = some (.lst (p.map natV)) := by rw [upd_same, ← List.map_reverse, az.pile, List.reverse_reverse]
  show ({ nx := _, rt := Q : Ends }).nx _ _
  generalize upd H ld (.lst (z.pile.map natV).reverse) = H1 at k1 e1 ⊢
  have l1 := l.more k1
  have T1 := T.same k1
  walk_at "q"
  refine s_asg_of (e_pos (ev_dg (ev_var rfl) (l1.get (i := 0) rfl) (f4_have B)) (l1.get (i := 2) rfl) (by show 4 < 7; decide) (by rw [hz, List.length_map]; omega) fun lh H2 hlh k2 e2 => ?_)
  have e2' : H2 lh = some (.lst (m.heldL.map natV)) := by rw [e2, hz]; rfl
  have l2 := l1.more k2
  have T2 := T1.same k2
  have c2 := Same.trans k1 k2
  show ({ nx := _, rt := Q : Ends }).nx _ _
  walk_at "q"
  refine s_asg_of (s_meth (ev_var rfl) T2.obj (mf_no _ _ _ (by simp)) ea_nil ⟨A, m, rfl, T2, fun ln hln => ?_⟩)
  have k3 : Same H2 (upd H2 ln (.lst (m.links.map natV))) := Same.new hln
  have e3 : (upd H2 ln (.lst (m.links.map natV))) ln = some (.lst (m.links.map natV)) := upd_same
  have l3 := l2.more k3
  have T3 := T2.same k3
  have c3 := Same.trans c2 k3
  show ({ nx := _, rt := Q : Ends }).nx _ _
  generalize upd H2 ln (.lst (m.links.map natV)) = H3 at k3 e3 l3 T3 c3 ⊢
  walk_at "q"
  refine s_if_of (t_or_of (t_not_of' (t_B_of (t_call_of (t_cons_of (s_meth (ev_var rfl) T3.obj (mf_no _ _ _ (by simp)) ea_nil ⟨A, m, rfl, T3, f.pile, fun lp H4 hlp k4 e4 => ?_⟩))))))
  have e1' := k4 _ _ (k3 _ _ (k2 _ _ e1))
  have ep : m.pile = p := L.pile
  rw [ep] at e4
  refine t_cons_of (ev_var rfl _ ⟨_, _, .list ((p.map Int.ofNat).map PyData.int), rfl, natD e4, natD e1', (okD_ints _).1, Nat.lt_of_le_of_lt (okD_ints _).2 (by decide), by decide, small_natl _ (by omega), ⟨true, rfl, iteF ?_⟩⟩)
  have T4 := T3.same k4
  have l5 := l3.more k4
  refine t_not_of' (t_B_of (t_call_of (t_cons_of (s_meth (ev_var rfl) T4.obj (mf_no _ _ _ (by simp)) ea_nil ⟨A, m, rfl, T4, fun lf hlf => ?_⟩))))
  have k5 : Same H4 (upd H4 lf (.lst (m.freed.map natV))) := Same.new hlf
  have e5 : (upd H4 lf (.lst (m.freed.map natV))) lf = some (.lst (m.freed.map natV)) := upd_same
  have l6 := l5.more k5
  have T5 := T4.same k5
  have c5 := Same.trans c3 (Same.trans k4 k5)
  have e1 := k5 _ _ e1'
  have e2' := k5 _ _ (k4 _ _ (k3 _ _ e2'))
  have e3 := k5 _ _ (k4 _ _ e3)
  generalize upd H4 lf (.lst (m.freed.map natV)) = H5 at k5 e5 l6 T5 c5 e1 e2' e3 ⊢
  have efr := l6.get (i := 4) rfl
  rw [az.free] at efr
  refine t_cons_of (ev_dg (ev_var rfl) (l6.get (i := 0) rfl) (f4_free B) _ ⟨_, _, .list ((m.freed.map Int.ofNat).map PyData.int), rfl, natD e5, natD efr, (okD_ints _).1, Nat.lt_of_le_of_lt (okD_ints _).2 (by decide), by decide, small_natl _ (by omega), ⟨true, rfl, iteF ?_⟩⟩)
  dsimp only [tNext]
  have pz : z.pile.length = p.length := by rw [az.pile, List.length_reverse]
  clear e5 k5 e4 k4 T4 T3 T2 T1 l5 l3 l2 l1
  -- the nexts lead down
  walk_at "q"
  have lenp := ev_lenL (K := Z.K) (s := [some (V.ref A.p), some (.ref B.s), some (.ref ld), some (.ref lh), none, some (.ref ln), none]) (ev_dg (ta := tVar 1) (ev_var rfl) (l6.get (i := 0) rfl) (f4_pile B)) (SqL.of (l6.get (i := 1) rfl))
  rw [List.length_map] at lenp
  refine s_forR (n := z.pile.length) lenp (by omega) (fun i s' H' => ∃ x : Option V, s' = [some (V.ref A.p), some (.ref B.s), some (.ref ld), some (.ref lh), none, some (.ref ln), x] ∧ Same H5 H')
    ⟨none, rfl, Same.refl _⟩ (fun i s' H' hi p' => ?_) (fun s' H' p' => ?_)
  · obtain ⟨x, rfl, c⟩ := p'
    have hc : p.reverse[i]? = some (p.reverse[i]'(by rw [List.length_reverse]; omega)) := List.getElem?_eq_getElem _
    generalize p.reverse[i]'(by rw [List.length_reverse]; omega) = cc at hc
    have hd := (chain_down L.ch).2 i cc hc
    have hin := L.pin cc (List.mem_reverse.mp (List.mem_of_getElem? hc))
    have gp : (z.pile.map natV)[i]? = some (.int (cc : Int)) := by rw [List.getElem?_map, az.pile, hc]; rfl
    have gl : atI (m.links.map natV) ((cc : Int) - 1) = some (natV (m.links.getD (cc - 1) 0)) := by
      have e : ((cc : Int) - 1) = ((cc - 1 : Nat) : Int) := by omega
      rw [e]
      refine atI_nat ?_
      have hll := L.ll
      rw [List.getElem?_map, List.getElem?_eq_getElem (by omega), getD_get (List.getElem?_eq_getElem (by omega))]
      rfl
    have l7 := l6.more c
    dsimp only [gName]
    refine s_if_of (t_test_of (t_op_of (ev_ixL (ev_var rfl) (ev_sub (ev_ixL (ev_dg (ev_var rfl) (l7.get (i := 0) rfl) (f4_pile B)) (ev_var rfl) (SqL.of (l7.get (i := 1) rfl)) (atI_nat gp)) ev_c) (SqL.of (c _ _ e3)) gl _ (t_op_of ?_))))
    refine t_op_of (e_lst (ea_cons ev_c ea_nil) (by show 1 ≤ 1000; decide) fun la hla => ?_)
    have k8 : Same H' (upd H' la (.lst [.int 0])) := Same.new hla
    have l8 := l7.more k8
    have e8 : (upd H' la (.lst [.int 0])) la = some (.lst [.int 0]) := upd_same
    have c8 := Same.trans c k8
    generalize upd H' la (.lst [.int 0]) = H8 at k8 l8 e8 c8 ⊢
    refine ev_dg (ev_var rfl) (l8.get (i := 0) rfl) (f4_pile B) _ ⟨la, B.pl, _, _, rfl, rfl, e8, l8.get (i := 1) rfl, ?_, fun lb hlb => ?_⟩
    · rw [List.length_map]
      exact Nat.le_trans (show 1 + z.pile.length ≤ 100 by omega) (by decide)
    have k9 : Same H8 (upd H8 lb (.lst ([V.int 0] ++ z.pile.map natV))) := Same.new hlb
    have e9 : (upd H8 lb (.lst ([V.int 0] ++ z.pile.map natV))) lb = some (.lst ([V.int 0] ++ z.pile.map natV)) := upd_same
    have c9 := Same.trans c8 k9
    generalize upd H8 lb (.lst ([V.int 0] ++ z.pile.map natV)) = H9 at e9 c9 ⊢
    have g9 : ([V.int 0] ++ z.pile.map natV)[i]? = some (natV (m.links.getD (cc - 1) 0)) := by
      have : ([V.int 0] ++ z.pile.map natV) = (0 :: p.reverse).map natV := by rw [az.pile]; rfl
      rw [this, List.getElem?_map, hd]
      rfl
    refine ev_var rfl _ ⟨lb, _, (i : Int), _, rfl, rfl, SqL.of e9, atI_nat g9, ⟨rfl, ?_⟩⟩
    refine ⟨_, rfl, ?_⟩
    rw [decide_eq_true rfl]
    refine iteF ?_
    exact ⟨_, rfl, c9⟩
  · obtain ⟨x, rfl, c⟩ := p'
    have l7 := l6.more c
    have c7 := Same.trans c5 c
    have e1 := c _ _ e1
    have e2 := c _ _ e2'
    have e3 := c _ _ e3
    clear l6 c c5 e2' T5
    dsimp only
    have efr := l7.get (i := 4) rfl
    rw [az.free] at efr
    refine s_ret_of (t_op_of (t_cb_of (t_cons_of (t_op_of (t_op_of (ev_var rfl _ (ev_dg (ev_var rfl) (l7.get (i := 0) rfl) (f4_free B) _ ⟨ld, B.fr, _, _, rfl, rfl, e1, efr, ?_, fun lk hk => ?_⟩)))))))
    · rw [List.length_map, List.length_map]
      exact Nat.le_trans (by omega : _ ≤ 100) (by decide)
    have kK : Same H' (upd H' lk (.lst (p.map natV ++ m.freed.map natV))) := Same.new hk
    have eK : (upd H' lk (.lst (p.map natV ++ m.freed.map natV))) lk = some (.lst (p.map natV ++ m.freed.map natV)) := upd_same
    have cK := Same.trans c7 kK
    have e3 := kK _ _ e3
    have e2 := kK _ _ e2
    generalize upd H' lk (.lst (p.map natV ++ m.freed.map natV)) = HK at eK cK e2 e3 ⊢
    refine ev_var rfl _ ⟨lk, lh, _, _, rfl, rfl, eK, e2, ?_, fun ll hll => ?_⟩
    · rw [List.length_append, List.length_map, List.length_map, List.length_map]
      exact Nat.le_trans (by omega : _ ≤ 100) (by decide)
    have kL : Same HK (upd HK ll (.lst (p.map natV ++ m.freed.map natV ++ m.heldL.map natV))) := Same.new hll
    have eL : (upd HK ll (.lst (p.map natV ++ m.freed.map natV ++ m.heldL.map natV))) ll = some (.lst (((p ++ m.freed ++ m.heldL).map Int.ofNat).map V.int)) := by
      rw [upd_same, ← natV_int, List.map_append, List.map_append]
    have cL := Same.trans cK kL
    have e3 := kL _ _ e3
    generalize upd HK ll (.lst (p.map natV ++ m.freed.map natV ++ m.heldL.map natV)) = HL at eL cL e3 ⊢
    refine ⟨ll, _, rfl, SqL.of eL, by rw [List.length_map, List.length_append, List.length_append]; omega, fun ns' lm hperm hs hlm => ?_⟩
    have es2 := L.sorted hperm hs
    subst es2
    have kM : Same HL (upd HL lm (.lst ((upto m.worths.length).map V.int))) := Same.new hlm
    have eM : (upd HL lm (.lst ((upto m.worths.length).map V.int))) lm = some (.lst ((upto m.worths.length).map V.int)) := upd_same
    have cM := Same.trans cL kM
    have e3 := kM _ _ e3
    show tLstRg _ _ (upd HL lm (.lst ((upto m.worths.length).map V.int))) _
    generalize upd HL lm (.lst ((upto m.worths.length).map V.int)) = HM at eM cM e3 ⊢
    have lenl := ev_lenL (K := Z.K) (s := [some (V.ref A.p), some (.ref B.s), some (.ref ld), some (.ref lh), none, some (.ref ln), x]) (ev_var (n := 5) rfl) (SqL.of e3)
    rw [List.length_map, L.ll] at lenl
    refine t_rg2_of ev_c (ev_add lenl ev_c _ ⟨_, rfl, .of_le (by omega) (by omega) (by omega) (by omega), fun lo hlo => ?_⟩)
    rw [rgV_upto]
    have kO : Same HM (upd HM lo (.lst ((upto m.worths.length).map V.int))) := Same.new hlo
    exact eq_same (d := .list ((upto m.worths.length).map PyData.int)) (n := 1) (.lst (SqL.of (kO _ _ eM)) (dp_ints _)) (.lst (SqL.of upd_same) (dp_ints _)) (okD_ints _) (by decide) (q _ (Same.trans cM kO))
end SS

set_option Elab.async false
set_option linter.all false
set_option maxRecDepth 100000
set_option maxHeartbeats 4000000
namespace SS
open PySem L2
local macro_rules | `(tactic| walk_at "q") => `(tactic| ((try dsimp only); refine s_seq ?_))

def sp_L_lower (Z : Cs) : Sp := fun vs H Q _ => ∃ (v : V) (t : Tell) (n : Nat), vs = [v, .int n] ∧ TellAt H v t ∧ ∀ v' H', Same H H' → TellAt H' v' (t.lower n) → Q v' H'
/-- _law_lower: 0 _law_step, 1 _law_by -/
def t_L_lower (Z : Cs) : TS :=
  tSeq (tIfS (tTest (tOp (rIn Z.K false) (tOp (rIxT Z.K) (tVar 0) (tC (.int 0))) (tTup (tCons (tC (.str "takes")) (tCons (tC (.str "reads")) (tCons (tC (.str "links")) (tCons (tC (.str "marks")) (tCons (tC (.str "follows")) (tCons (tC (.str "exchanges")) tNil))))))))) ((tRet (tTup (tCons (tOp (rIxT Z.K) (tVar 0) (tC (.int 0))) (tCons (tOp rAddI (tOp (rIxT Z.K) (tVar 0) (tC (.int 1))) (tVar 1)) tNil))))) (tNext))
    ((tRet (tVar 0)))

theorem pure_L_lower {Z : Cs} (vs : List V) (H : Hp) (Q : VK) (E : XK) (h : sp_L_lower Z vs H Q E) : t_L_lower Z { nx := fun _ H' => Q .non H', rt := Q } (start ["_law_step", "_law_by"] vs) H := by
  obtain ⟨v, t, n, rfl, ⟨q0, rfl, h0⟩, q⟩ := h
  unfold t_L_lower
  walk_at "q"
  have go : ∀ {w : Str} {rest : List V} {b : Bool}, tellVs t = .str w :: rest → inV (V.str w) [.str "takes", .str "reads", .str "links", .str "marks", .str "follows", .str "exchanges"] = b → ∀ {D : Ends} {tu tv : TS}, (∀ p, H p = none → if b = true then tu D (start ["_law_step", "_law_by"] [.ref q0, .int n]) (upd H p (.tup [.str "takes", .str "reads", .str "links", .str "marks", .str "follows", .str "exchanges"])) else tv D (start ["_law_step", "_law_by"] [.ref q0, .int n]) (upd H p (.tup [.str "takes", .str "reads", .str "links", .str "marks", .str "follows", .str "exchanges"]))) →
      tIfS (tTest (tOp (rIn Z.K false) (tOp (rIxT Z.K) (tVar 0) (tC (.int 0))) (tTup (tCons (tC (.str "takes")) (tCons (tC (.str "reads")) (tCons (tC (.str "links")) (tCons (tC (.str "marks")) (tCons (tC (.str "follows")) (tCons (tC (.str "exchanges")) tNil))))))))) tu tv D (start ["_law_step", "_law_by"] [.ref q0, .int n]) H := by
    intro w rest b ew eb D tu tv hq
    refine s_if_of (t_test_of (t_op_of (ev_ixT (v := .str w) (ev_var rfl) ev_c (SqT.of h0) (atI_nat (j := 0) (by rw [ew]; rfl)) _ (e_tup (ea_cons ev_c (ea_cons ev_c (ea_cons ev_c (ea_cons ev_c (ea_cons ev_c (ea_cons ev_c ea_nil)))))) (by show 6 ≤ 1000; decide) fun p hp => ?_))))
    refine ⟨p, _, rfl, .inr (SqT.of upd_same), rfl, rfl, ⟨_, rfl, ?_⟩⟩
    rw [if_neg Bool.false_ne_true, eb]
    exact hq p hp
  cases t with
  | rests =>
    refine go (w := "rests") (b := false) rfl (by decide +kernel) fun p hp => ?_
    have k1 : Same H _ := Same.new (o := .tup [.str "takes", .str "reads", .str "links", .str "marks", .str "follows", .str "exchanges"]) hp
    refine iteF ?_
    dsimp only [tNext]
    exact s_ret_of (ev_var (v := .ref q0) rfl _ (q _ _ k1 ⟨q0, rfl, k1 _ _ h0⟩))
  | takes c =>
    refine go (w := "takes") (b := true) rfl (by decide +kernel) fun p hp => ?_
    have k1 : Same H _ := Same.new (o := .tup [.str "takes", .str "reads", .str "links", .str "marks", .str "follows", .str "exchanges"]) hp
    refine iteT (s_ret_of (e_tup (ea_cons (ev_ixT (v := .str "takes") (ev_var rfl) ev_c (SqT.of (k1 _ _ h0)) (atI_nat (j := 0) rfl)) (ea_cons (ev_add (i := (c : Int)) (j := (n : Int)) (ev_ixT (v := natV c) (ev_var rfl) ev_c (SqT.of (k1 _ _ h0)) (atI_nat (j := 1) rfl)) (ev_var rfl)) ea_nil)) (by show 2 ≤ 1000; decide) fun p2 hp2 => ?_))
    exact q _ _ (Same.trans k1 (Same.new hp2)) ⟨p2, rfl, upd_same⟩
  | reads c =>
    refine go (w := "reads") (b := true) rfl (by decide +kernel) fun p hp => ?_
    have k1 : Same H _ := Same.new (o := .tup [.str "takes", .str "reads", .str "links", .str "marks", .str "follows", .str "exchanges"]) hp
    refine iteT (s_ret_of (e_tup (ea_cons (ev_ixT (v := .str "reads") (ev_var rfl) ev_c (SqT.of (k1 _ _ h0)) (atI_nat (j := 0) rfl)) (ea_cons (ev_add (i := (c : Int)) (j := (n : Int)) (ev_ixT (v := natV c) (ev_var rfl) ev_c (SqT.of (k1 _ _ h0)) (atI_nat (j := 1) rfl)) (ev_var rfl)) ea_nil)) (by show 2 ≤ 1000; decide) fun p2 hp2 => ?_))
    exact q _ _ (Same.trans k1 (Same.new hp2)) ⟨p2, rfl, upd_same⟩
  | links c =>
    refine go (w := "links") (b := true) rfl (by decide +kernel) fun p hp => ?_
    have k1 : Same H _ := Same.new (o := .tup [.str "takes", .str "reads", .str "links", .str "marks", .str "follows", .str "exchanges"]) hp
    refine iteT (s_ret_of (e_tup (ea_cons (ev_ixT (v := .str "links") (ev_var rfl) ev_c (SqT.of (k1 _ _ h0)) (atI_nat (j := 0) rfl)) (ea_cons (ev_add (i := (c : Int)) (j := (n : Int)) (ev_ixT (v := natV c) (ev_var rfl) ev_c (SqT.of (k1 _ _ h0)) (atI_nat (j := 1) rfl)) (ev_var rfl)) ea_nil)) (by show 2 ≤ 1000; decide) fun p2 hp2 => ?_))
    exact q _ _ (Same.trans k1 (Same.new hp2)) ⟨p2, rfl, upd_same⟩
  | ends a =>
    refine go (w := "ends") (b := false) rfl (by decide +kernel) fun p hp => ?_
    have k1 : Same H _ := Same.new (o := .tup [.str "takes", .str "reads", .str "links", .str "marks", .str "follows", .str "exchanges"]) hp
    refine iteF ?_
    dsimp only [tNext]
    exact s_ret_of (ev_var (v := .ref q0) rfl _ (q _ _ k1 ⟨q0, rfl, k1 _ _ h0⟩))
  | marks c =>
    refine go (w := "marks") (b := true) rfl (by decide +kernel) fun p hp => ?_
    have k1 : Same H _ := Same.new (o := .tup [.str "takes", .str "reads", .str "links", .str "marks", .str "follows", .str "exchanges"]) hp
    refine iteT (s_ret_of (e_tup (ea_cons (ev_ixT (v := .str "marks") (ev_var rfl) ev_c (SqT.of (k1 _ _ h0)) (atI_nat (j := 0) rfl)) (ea_cons (ev_add (i := (c : Int)) (j := (n : Int)) (ev_ixT (v := natV c) (ev_var rfl) ev_c (SqT.of (k1 _ _ h0)) (atI_nat (j := 1) rfl)) (ev_var rfl)) ea_nil)) (by show 2 ≤ 1000; decide) fun p2 hp2 => ?_))
    exact q _ _ (Same.trans k1 (Same.new hp2)) ⟨p2, rfl, upd_same⟩
  | looks b =>
    refine go (w := "looks") (b := false) rfl (by decide +kernel) fun p hp => ?_
    have k1 : Same H _ := Same.new (o := .tup [.str "takes", .str "reads", .str "links", .str "marks", .str "follows", .str "exchanges"]) hp
    refine iteF ?_
    dsimp only [tNext]
    exact s_ret_of (ev_var (v := .ref q0) rfl _ (q _ _ k1 ⟨q0, rfl, k1 _ _ h0⟩))
  | follows c =>
    refine go (w := "follows") (b := true) rfl (by decide +kernel) fun p hp => ?_
    have k1 : Same H _ := Same.new (o := .tup [.str "takes", .str "reads", .str "links", .str "marks", .str "follows", .str "exchanges"]) hp
    refine iteT (s_ret_of (e_tup (ea_cons (ev_ixT (v := .str "follows") (ev_var rfl) ev_c (SqT.of (k1 _ _ h0)) (atI_nat (j := 0) rfl)) (ea_cons (ev_add (i := (c : Int)) (j := (n : Int)) (ev_ixT (v := natV c) (ev_var rfl) ev_c (SqT.of (k1 _ _ h0)) (atI_nat (j := 1) rfl)) (ev_var rfl)) ea_nil)) (by show 2 ≤ 1000; decide) fun p2 hp2 => ?_))
    exact q _ _ (Same.trans k1 (Same.new hp2)) ⟨p2, rfl, upd_same⟩
  | exchanges c =>
    refine go (w := "exchanges") (b := true) rfl (by decide +kernel) fun p hp => ?_
    have k1 : Same H _ := Same.new (o := .tup [.str "takes", .str "reads", .str "links", .str "marks", .str "follows", .str "exchanges"]) hp
    refine iteT (s_ret_of (e_tup (ea_cons (ev_ixT (v := .str "exchanges") (ev_var rfl) ev_c (SqT.of (k1 _ _ h0)) (atI_nat (j := 0) rfl)) (ea_cons (ev_add (i := (c : Int)) (j := (n : Int)) (ev_ixT (v := natV c) (ev_var rfl) ev_c (SqT.of (k1 _ _ h0)) (atI_nat (j := 1) rfl)) (ev_var rfl)) ea_nil)) (by show 2 ≤ 1000; decide) fun p2 hp2 => ?_))
    exact q _ _ (Same.trans k1 (Same.new hp2)) ⟨p2, rfl, upd_same⟩
  | misses =>
    refine go (w := "misses") (b := false) rfl (by decide +kernel) fun p hp => ?_
    have k1 : Same H _ := Same.new (o := .tup [.str "takes", .str "reads", .str "links", .str "marks", .str "follows", .str "exchanges"]) hp
    refine iteF ?_
    dsimp only [tNext]
    exact s_ret_of (ev_var (v := .ref q0) rfl _ (q _ _ k1 ⟨q0, rfl, k1 _ _ h0⟩))
theorem tups_put4 {H : Hp} {q : Addr} {o o' : HO} (hq : H q = some o) (n : ∀ ys, o ≠ .tup ys) : Tups H (upd H q o') := fun b xs e => by
  rw [upd_ne (fun z => by rw [z, hq] at e; exact n _ (Option.some.inj e))]
  exact e
/-- [_law_next(d, 100) for k in range(1 + _law_next(d, 2))] -/
theorem e_more {Z : Cs} {s : L2.St} {H : Hp} {Q : VK} {n k d : Nat} (hd : s[n]? = some (some (.ref d))) (nk : n ≠ k) (x : DiceAt Z.K H d)
    (q : ∀ D (ns : List Int) H', H D = none → Chg (Dc d) H H' → DiceAt Z.K H' d → H' D = some (.lst (ns.map V.int)) → ns.length ≤ 2 → (∀ v ∈ ns, okVal v) → Q (.ref D) H') :
    tLc (iRng1 (tCons (tOp rAddI (tC (.int 1)) (tCall (sp_L_next Z) [] E0 (tCons (tVar n) (tCons (tC (.int 2)) tNil)))) tNil)) (gName k) tYes (tCall (sp_L_next Z) [] E0 (tCons (tVar n) (tCons (tC (.int 100)) tNil))) [k] s H Q := by
  have gd : ∀ v, ((wipe s [k]).set k v)[n]? = some (some (.ref d)) := fun v => by
    rw [List.getElem?_set_ne (fun z => nk z.symm), wipe_out (by simpa using nk)]
    exact hd
  refine e_lcRX (fun i H3 => i ≤ 2 ∧ Chg (Dc d) H H3 ∧ DiceAt Z.K H3 d) (fun R hR => t_op_of (ev_c _ (s_next (m := 2) hd x (ev_N 2 rfl) (by decide) (by decide) fun r H3 hr c4 x4 => ⟨1, (r : Int), rfl, rfl, ?_⟩))) ?_
  · show R (.int ((1 : Int) + (r : Int))) H3
    rw [show (1 : Int) + (r : Int) = ((1 + r : Nat) : Int) by omega]
    exact hR (1 + r) H3 ⟨by omega, c4, x4⟩
  rintro i H1 ⟨hn, c1, x1⟩
  refine e_lcR ev_c (by omega) (fun D j H' => Chg (Dc d) H1 H' ∧ DiceAt Z.K H' d ∧ ∃ ns : List Int, ns.length = j ∧ (∀ v ∈ ns, okVal v) ∧ H' D = some (.lst (ns.map V.int)))
    (fun D hD => ⟨Chg.same (Same.new hD), x1.same (Same.new hD), [], rfl, (by simp), upd_same⟩) (fun D j H' hj hD p => ?_) (fun D H' hD p => ?_)
  · obtain ⟨c2, x2, ns, rfl, hv, hl⟩ := p
    have nD := x1.ne hD
    refine ⟨by simp only [wipe, List.set_set], et_yes _ (iteT (s_next (m := 100) (gd _) x2 (ev_N 100 rfl) (by decide) (by decide) fun r H2 hr c3 x3 => ?_))⟩
    have hl3 := c3.ne hl nD
    refine ⟨_, hl3, by rw [List.length_map]; exact Nat.lt_of_lt_of_le hj (Nat.le_trans (by omega : i ≤ 1001) (by decide)), chg_fill (c2.trans c3) hD, x3.fill hl3 nD, ns ++ [(r : Int)], by simp, ?_, ?_⟩
    · intro v hv'
      rcases List.mem_append.mp hv' with z | z
      · exact hv v z
      · have e : v = (r : Int) := by simpa using z
        rw [e]
        exact ⟨by omega, by omega⟩
    · rw [upd_same, List.map_append]
      rfl
  · obtain ⟨c2, x2, ns, hn2, hv, hl⟩ := p
    exact q D ns H' (c1.free' (x1.ne hD) hD) (c1.trans c2) x2 hl (by omega) hv
/-- [cell + by for cell in cells] -/
theorem e_up {Z : Cs} {s : L2.St} {H : Hp} {Q : VK} {tl : TE} {l : Addr} {ns : List Nat} {k b n : Nat} (he : Ev tl s H (.ref l)) (hl : H l = some (.lst (ns.map natV))) (hk : k < s.length) (hb : s[b]? = some (some (.int (n : Int)))) (bk : b ≠ k) (h3 : ns.length ≤ 1000)
    (q : ∀ D H', H D = none → Same H H' → H' D = some (.lst ((ns.map (· + n)).map natV)) → Q (.ref D) H') :
    tLc (iList Z.K tl) (gName k) tYes (tOp rAddI (tVar k) (tVar b)) [k] s H Q := by
  refine e_lcL he (SqL.of hl) (fun D i H' => Same H H' ∧ H' D = some (.lst (((ns.take i).map (· + n)).map natV))) (fun D hD => ⟨Same.new hD, upd_same⟩) (fun D i H' _ _ p => SqL.of (p.1 _ _ hl)) (fun D i x H' hx hD p => ?_) (fun D H' hD p => ?_)
  · obtain ⟨c, hL⟩ := p
    obtain ⟨y, hy, rfl⟩ := map_get hx
    have gk : ((wipe s [k]).set k (some (natV y)))[k]? = some (some (natV y)) := by rw [List.getElem?_set_self (by rw [wipe_length]; exact hk)]
    have gb : ((wipe s [k]).set k (some (natV y)))[b]? = some (some (.int (n : Int))) := by rw [List.getElem?_set_ne (fun z => bk z.symm), wipe_out (by simpa using bk)]; exact hb
    refine ⟨by simp only [wipe, List.set_set], et_yes _ (iteT (ev_add (i := (y : Int)) (j := (n : Int)) (ev_var gk) (ev_var gb) _ ⟨_, hL, ?_, same_newer c hD, ?_⟩))⟩
    · rw [List.length_map, List.length_map, List.length_take]
      exact Nat.lt_of_le_of_lt (by omega : _ ≤ 1000) (by decide)
    · rw [upd_same, take_snoc hy, List.map_append, List.map_append]
      rfl
  · rw [List.length_map, List.take_length] at p
    exact q D H' hD p.1 p.2
theorem machine_at {Z : Cs} {H : Hp} {lv lp lr x dx : Addr} {values : List Int} {ps : List (List Deed)} {r : Rule} {P : Hp → Prop} (hx : H x = none) (hdx : H dx = none) (ne : dx ≠ x) (hv : SqL Z.K H lv (values.map V.int)) (hp : ProgsAt Z.K H lp ps) (hr : RuleAt H lr r) (ok : okIn values ps r)
    (q : ∀ (A : MA) H', A.p = x → Same H H' → (∀ a, A.owns a → H a = none) → MachAt Z H' A (M.begin_ values ps r) → P H') : sp_M_init Z [.ref x, .ref lv, .ref lp, .ref lr] (upd (upd H dx (.own x)) x (.ins Z.M dx [])) (fun v H2 => v = .non ∧ P H2) E0 := by
  have s1 : Same H (upd (upd H dx (.own x)) x (.ins Z.M dx [])) := fun b o e => by
    rw [upd_ne (ne_of_none e hx), upd_ne (ne_of_none e hdx)]
    exact e
  have hp' : ProgsAt Z.K (upd (upd H dx (.own x)) x (.ins Z.M dx [])) lp ps := by
    obtain ⟨us, L, hu⟩ := hp
    refine ⟨us, Same.seq s1 L, hu.mono fun v ds => ?_⟩
    rintro ⟨q, vs, rfl, h1, h2⟩
    exact ⟨q, vs, rfl, s1 _ _ h1, h2.mono fun _ _ => DeedAt.mono fun b xs e => s1 _ _ e⟩
  refine ⟨x, dx, lv, lp, lr, values, ps, r, rfl, upd_same, Same.seq s1 hv, hp', hr.mono fun b xs e => s1 _ _ e, ok, fun A H' eA own T bt => ⟨rfl, ?_⟩⟩
  refine q A H' eA (Same.made hx hdx bt) (fun a ho => ?_) T
  by_cases e : a = x
  · rw [e]; exact hx
  · exact free_of s1 (own a ho e)
def sp_law (Z : Cs) : Sp := fun vs H Q _ => ∃ (sc : Addr) (ns : List Int), vs = [.ref sc] ∧ ScrAt Z.K H sc (ns.map V.int) ∧ ns.length ≤ 63 ∧ ∀ H', Q (.bl true) H'
/-- law: 0 _law_script, 1 _law_d, 2 _law_values_here, 3 _law_programs_here, 4 _law_rule_here, 5 _law_weaving_here, 6 _law_more, 7 _law_k, 8 _law_by, 9 _law_steps, 10 _law_step, 11 _law_one, 12 _law_two, 13 _law_hand, 14 _law_cell -/
def t_law (Z : Cs) : TS :=
  tSeq (tAsg (tCall (sp_L_dice Z) [] E0 (tCons (tVar 0) tNil)) (gName 1))
    (tSeq (tAsg (tCall (sp_L_case Z) [] E0 (tCons (tVar 1) tNil)) (gTup Z.K 4 (gCons (gName 2) (gCons (gName 3) (gCons (gName 4) (gCons (gName 5) gNil))))))
    (tSeq (tPar 2 6 (tCons (tSl (rSlL Z.K) (tVar 2) tNoPart (tPart (tC (.int 4)))) (tCons (tLc (iRng1 (tCons (tOp rAddI (tC (.int 1)) (tCall (sp_L_next Z) [] E0 (tCons (tVar 1) (tCons (tC (.int 2)) tNil)))) tNil)) (gName 7) tYes (tCall (sp_L_next Z) [] E0 (tCons (tVar 1) (tCons (tC (.int 100)) tNil))) [7]) tNil)))
    (tSeq (tAsg (tTup (tCons (tCB (rLen1 Z.K) (tCons (tVar 6) tNil)) (tCons (tCall (sp_played Z) [] E0 (tCons (tVar 2) (tCons (tVar 3) (tCons (tVar 4) (tCons (tVar 5) tNil))))) tNil))) (gTup Z.K 2 (gCons (gName 8) (gCons (gName 9) gNil))))
    (tSeq (tIfS (tTest (tOp (rInD Z.K) (tTup (tCons (tC (.str "ends")) (tCons (tC .non) tNil))) (tVar 9))) ((tRet (tOp (rInDT Z.K) (tOp (rIxT Z.K) (tCall (sp_whole Z) [] E0 (tCons (tVar 2) (tCons (tVar 3) (tCons (tVar 4) (tCons (tVar 5) tNil))))) (tC (.int 3))) (tTup (tCons (tC (.bl true)) (tCons (tC (.bl false)) tNil)))))) (tNext))
    (tSeq (tIfS (tTest (tOp (rNeD Z.K) (tCall (sp_played Z) [] E0 (tCons (tOp rCat (tVar 6) (tVar 2)) (tCons (tVar 3) (tCons (tVar 4) (tCons (tVar 5) tNil))))) (tLc (iList Z.K (tVar 9)) (gName 10) tYes (tCall (sp_L_lower Z) [] E0 (tCons (tVar 10) (tCons (tVar 8) tNil))) [10]))) ((tRet (tC (.bl false)))) (tNext))
    (tSeq (tPar 11 12 (tCons (tMake Z.M (sp_M_init Z) [] E0 (tCons (tVar 2) (tCons (tVar 3) (tCons (tVar 4) tNil)))) (tCons (tMake Z.M (sp_M_init Z) [] E0 (tCons (tOp rCat (tVar 6) (tVar 2)) (tCons (tVar 3) (tCons (tVar 4) tNil)))) tNil)))
    (tSeq (tFor (iList Z.K (tVar 5)) (gName 13) (tSeq (tDrop (tMeth Z.M "turn" (sp_M_turn Z) [] E0 (tVar 11) (tCons (tVar 13) tNil)))
    ((tDrop (tMeth Z.M "turn" (sp_M_turn Z) [] E0 (tVar 12) (tCons (tVar 13) tNil))))))
    (tSeq (tIfS ((tOr (tTest (tOp rNe (tMeth Z.M "is_stale" (sp_M_is_stale Z) [] E0 (tVar 11) tNil) (tMeth Z.M "is_stale" (sp_M_is_stale Z) [] E0 (tVar 12) tNil))) (tTest (tOp (rNeD Z.K) (tMeth Z.M "order" (sp_M_order Z) [] E0 (tVar 11) tNil) (tMeth Z.M "order" (sp_M_order Z) [] E0 (tVar 12) tNil))))) ((tRet (tC (.bl false)))) (tNext))
    (tSeq (tIfS (tTest (tOp (rNeD Z.K) (tMeth Z.M "free" (sp_M_free Z) [] E0 (tVar 12) tNil) (tLc (iList Z.K (tMeth Z.M "free" (sp_M_free Z) [] E0 (tVar 11) tNil)) (gName 14) tYes (tOp rAddI (tVar 14) (tVar 8)) [14]))) ((tRet (tC (.bl false)))) (tNext))
    (tSeq (tIfS (tTest (tOp (rNeD Z.K) (tMeth Z.M "top_now" (sp_M_top_now Z) [] E0 (tVar 12) tNil) (tTup (tCons (tOp rAddI (tOp (rIxT Z.K) (tMeth Z.M "top_now" (sp_M_top_now Z) [] E0 (tVar 11) tNil) (tC (.int 0))) (tVar 8)) (tCons (tOp (rIxT Z.K) (tMeth Z.M "top_now" (sp_M_top_now Z) [] E0 (tVar 11) tNil) (tC (.int 1))) tNil))))) ((tRet (tC (.bl false)))) (tNext))
    (tSeq (tIfS (tB (tMeth Z.M "is_stale" (sp_M_is_stale Z) [] E0 (tVar 11) tNil)) ((tRet (tC (.bl true)))) (tNext))
    (tSeq (tIfS (tTest (tOp (rNeD Z.K) (tSl (rSlL Z.K) (tMeth Z.M "pile" (sp_M_pile Z) [] E0 (tVar 12) tNil) tNoPart (tPart (tCB (rLen1 Z.K) (tCons (tMeth Z.M "pile" (sp_M_pile Z) [] E0 (tVar 11) tNil) tNil)))) (tLc (iList Z.K (tMeth Z.M "pile" (sp_M_pile Z) [] E0 (tVar 11) tNil)) (gName 14) tYes (tOp rAddI (tVar 14) (tVar 8)) [14]))) ((tRet (tC (.bl false)))) (tNext))
    ((tRet (tOp (rEqD Z.K) (tMeth Z.M "pile_values" (sp_M_pile_values Z) [] E0 (tVar 12) tNil) (tOp rCat (tMeth Z.M "pile_values" (sp_M_pile_values Z) [] E0 (tVar 11) tNil) (tRevL Z.K (tVar 6))))))))))))))))))

theorem pure_law {Z : Cs} (k : ZOk Z) (vs : List V) (H : Hp) (Q : VK) (E : XK) (h : sp_law Z vs H Q E) : t_law Z { nx := fun _ H' => Q .non H', rt := Q } (start ["_law_script", "_law_d", "_law_values_here", "_law_programs_here", "_law_rule_here", "_law_weaving_here", "_law_more", "_law_k", "_law_by", "_law_steps", "_law_step", "_law_one", "_law_two", "_law_hand", "_law_cell"] vs) H := by
  obtain ⟨sc, ns, rfl, hsc, hns, q⟩ := h
  unfold t_law
  walk_at "q"
  refine s_asg_of (s_call (ea_cons (ev_var rfl) ea_nil) ⟨sc, ns, rfl, hsc, fun d H1 fd s1 x1 => ?_⟩)
  show ({ nx := _, rt := Q : Ends }).nx _ _
  walk_at "q"
  refine s_asg_of (s_call (ea_cons (ev_var rfl) ea_nil) ⟨d, rfl, x1, fun t lv lp lr lw values ps r w H2 c2 x2 ht ca n1 n2 => ⟨t, _, rfl, SqT.of ht, rfl, _, _, rfl, _, _, rfl, _, _, rfl, _, _, rfl, rfl, ?_⟩⟩)
  show ({ nx := _, rt := Q : Ends }).nx _ _
  have wl := ca.wl
  have pl := ca.ok.plen
  have hh := ca.hh
  -- fewer values, and more beneath
  walk_at "q"
  refine s_par_of (t_cons_of (t_slN (n := 4) (ev_var rfl) (ev_N 4 rfl) (SqL.of ca.hv) fun l4 hl4 => ?_))
  have k3 : Same H2 (upd H2 l4 (.lst ((values.map V.int).take 4))) := Same.new hl4
  have e3 : (upd H2 l4 (.lst ((values.map V.int).take 4))) l4 = some (.lst ((values.take 4).map V.int)) := by rw [upd_same, List.map_take]
  have n4 : l4 ≠ d := x2.ne hl4
  have x3 := x2.same k3
  have ca3 := ca.same k3
  generalize upd H2 l4 (.lst ((values.map V.int).take 4)) = H3 at k3 e3 x3 ca3 ⊢
  obtain ⟨vs, hvs⟩ : ∃ vs, vs = values.take 4 := ⟨_, rfl⟩
  have okv : okIn vs ps r := ⟨by rw [hvs, List.length_take]; omega, fun v hv => ca.ok.vals v (by rw [hvs] at hv; exact List.mem_of_mem_take hv), ca.ok.plen, ca.ok.dlen, ca.ok.deeds, ca.ok.rule⟩
  have vl : vs.length ≤ 4 := by rw [hvs, List.length_take]; omega
  rw [← hvs] at e3
  clear hvs
  refine t_cons_of (e_more rfl (by decide) x3 fun lm more H4 hlm c4 x4 e4 ml mv => ⟨_, _, rfl, ?_⟩)
  have ca4 := ca3.dice c4 x3 n1 n2
  have e3' := c4.ne e3 n4
  have okm : okIn (more ++ vs) ps r := ⟨by rw [List.length_append]; omega, fun v hv => by
    rcases List.mem_append.mp hv with z | z
    · exact mv v z
    · exact okv.vals v z, okv.plen, okv.dlen, okv.deeds, okv.rule⟩
  dsimp only
  have hp4 := ca4.hp
  have hr4 := ca4.hr
  have hw4 := ca4.hw
  clear ca ca3 ca4 k3 c4 x3 x2 c2 x1 s1 hsc e3 hl4 hlm x4
  generalize hm0 : M.begin_ vs ps r = m0
  have S0 : Sh more (fun c => 1 ≤ c ∧ c ≤ vs.length) m0 (M.begin_ (more ++ vs) ps r) := by rw [← hm0]; exact Sh.begin_
  have f0 : Fine ps r m0 := by rw [← hm0]; exact Fine.begin_ okv
  have fm : Fine ps r (M.begin_ (more ++ vs) ps r) := Fine.begin_ okm
  -- the steps
  walk_at "q"
  have lenm : ∀ {H' : Hp} {s : L2.St}, Same H4 H' → s[6]? = some (some (.ref lm)) → Ev (tCB (rLen1 Z.K) (tCons (tVar 6) tNil)) s H' (.int (more.length : Nat)) := fun c e => by
    have := ev_lenL (K := Z.K) (ev_var (n := 6) e) (SqL.of (c _ _ e4))
    rw [List.length_map] at this
    exact this
  refine s_asg_of (t_tup_of (t_cons_of (lenm (Same.refl H4) rfl _ (t_cons_of (s_call (ea_cons (ev_var rfl) (ea_cons (ev_var rfl) (ea_cons (ev_var rfl) (ea_cons (ev_var rfl) ea_nil)))) ⟨l4, lp, lr, lw, vs, ps, r, w, rfl, SqL.of e3', hp4.progs, hr4, okv, SqL.of hw4, hh, by omega, fun ls us H5 fl5 s5 e5 u5 => ⟨by show 2 ≤ sizeLine; decide, fun p5 hp5 => ?_⟩⟩)))))
  have k5 : Same H5 (upd H5 p5 (.tup [.int (more.length : Nat), .ref ls])) := Same.new hp5
  have g5 : (upd H5 p5 (.tup [.int (more.length : Nat), .ref ls])) p5 = some (.tup [.int (more.length : Nat), .ref ls]) := upd_same
  generalize upd H5 p5 (.tup [.int (more.length : Nat), .ref ls]) = H6 at k5 g5 ⊢
  refine ⟨p5, _, rfl, SqT.of g5, rfl, _, _, rfl, _, _, rfl, rfl, ?_⟩
  rw [hm0] at u5
  have e6 := k5 _ _ e5
  have u6 := u5.mono fun _ _ => TellAt.mono fun b xs e => k5 _ _ e
  have s6 := Same.trans s5 k5
  have tlen := tells_len w m0
  clear e5 u5 s5 k5 g5
  show ({ nx := _, rt := Q : Ends }).nx _ _
  -- a pop of an empty pile
  walk_at "q"
  refine s_if_of (t_test_of (t_op_of (e_tup (ea_cons ev_c (ea_cons ev_c ea_nil)) (by show 2 ≤ 1000; decide) fun p7 hp7 => ev_var rfl _ ?_)))
  have k7 : Same H6 (upd H6 p7 (.tup [.str "ends", .non])) := Same.new hp7
  have g7 : TellAt (upd H6 p7 (.tup [.str "ends", .non])) (.ref p7) (.ends .non) := ⟨p7, rfl, upd_same⟩
  generalize upd H6 p7 (.tup [.str "ends", .non]) = H7 at k7 g7 ⊢
  have e7 := k7 _ _ e6
  have u7 := u6.mono fun _ _ => TellAt.mono fun b xs e => k7 _ _ e
  have s7 := Same.trans s6 k7
  clear e6 u6 s6 k7
  refine ⟨tellD (.ends .non), (m0.tells w).map tellD, g7.dp, .lst (SqL.of e7) (tells_dp u7), (okD_tell _).shaped (by decide), (okD_tells _).shaped (by decide), ⟨_, rfl, ?_⟩⟩
  by_cases em : ((m0.tells w).map tellD).any (fun z => PyData.eqv z (tellD (.ends .non))) = true
  · rw [em]
    refine iteT (s_ret_of (t_op_of (t_op_of (s_call (ea_cons (ev_var rfl) (ea_cons (ev_var rfl) (ea_cons (ev_var rfl) (ea_cons (ev_var rfl) ea_nil)))) ⟨l4, lp, lr, lw, vs, ps, r, w, rfl, SqL.of (s7 _ _ e3'), (hp4.same s7).progs, hr4.mono (fun b xs e => s7 _ _ e), okv, SqL.of (s7 _ _ hw4), hh, fun v H8 s8 wa => ?_⟩))))
    obtain ⟨tw, la, lo, ll, as, us2, rfl, htw, _⟩ := wa
    refine ev_c _ ⟨tw, _, 3, .bl _, rfl, rfl, SqT.of htw, atI_nat (j := 3) rfl, ?_⟩
    refine e_tup (ea_cons ev_c (ea_cons ev_c ea_nil)) (by show 2 ≤ 1000; decide) fun p9 hp9 => ?_
    refine ⟨.bool (wholeM vs ps r w).strayed, [.bool true, .bool false], .bl _, .tup (SqT.of upd_same) (.cons (.bl _) (.cons (.bl _) .nil)), (okD_bool _).shaped (by decide), by decide +kernel, ?_⟩
    have eb : ([PyData.bool true, .bool false].any fun z => PyData.eqv z (.bool (wholeM vs ps r w).strayed)) = true := by
      cases (wholeM vs ps r w).strayed <;> decide +kernel
    rw [eb]
    exact q _
  have em' : ((m0.tells w).map tellD).any (fun z => PyData.eqv z (tellD (.ends .non))) = false := by
    cases e : ((m0.tells w).map tellD).any (fun z => PyData.eqv z (tellD (.ends .non))) with
    | true => exact absurd e em
    | false => rfl
  rw [em']
  refine iteF ?_
  dsimp only [tNext]
  have nt : ∀ t ∈ m0.tells w, t ≠ .ends .non := fun t ht e => em (List.any_eq_true.mpr ⟨tellD t, List.mem_map.mpr ⟨t, ht, rfl⟩, by rw [e]; exact SeqAt.eqv_refl _ (okD_tell _).1⟩)
  obtain ⟨et, K', SF⟩ := S0.run f0 hh nt
  clear em em'
  -- the steps with more beneath
  walk_at "q"
  refine s_if_of (t_test_of (t_op_of (t_call_of (t_cons_of (t_op_of (ev_var rfl _ (ev_var rfl _ ⟨lm, l4, _, _, rfl, rfl, s7 _ _ e4, s7 _ _ e3', by rw [List.length_map, List.length_map]; exact Nat.le_trans (by omega : _ ≤ 10) (by decide), fun l8 hl8 => ?_⟩)))))))
  have k8 : Same H7 (upd H7 l8 (.lst (more.map V.int ++ vs.map V.int))) := Same.new hl8
  have e8 : (upd H7 l8 (.lst (more.map V.int ++ vs.map V.int))) l8 = some (.lst ((more ++ vs).map V.int)) := by rw [upd_same, List.map_append]
  generalize upd H7 l8 (.lst (more.map V.int ++ vs.map V.int)) = H8 at k8 e8 ⊢
  have s8 := Same.trans s7 k8
  refine t_cons_of (ev_var rfl _ (t_cons_of (ev_var rfl _ (t_cons_of (ev_var rfl _ ?_)))))
  refine ⟨l8, lp, lr, lw, more ++ vs, ps, r, w, rfl, SqL.of e8, (hp4.same s8).progs, hr4.mono (fun b xs e => s8 _ _ e), okm, SqL.of (s8 _ _ hw4), hh, by omega, fun l9 us9 H9 fl9 s9 e9 u9 => ?_⟩
  rw [et] at u9
  have e7b := s9 _ _ (k8 _ _ e7)
  have u7b := u7.mono fun _ _ => TellAt.mono fun b xs e => s9 _ _ (k8 _ _ e)
  refine e_lcL (ev_var rfl) (SqL.of e7b) (fun D i H' => Same H9 H' ∧ ∃ vs : List V, H' D = some (.lst vs) ∧ All2 (TellAt H') vs (((m0.tells w).take i).map (Tell.lower more.length))) (fun D hD => ⟨Same.new hD, [], upd_same, .nil⟩) (fun D i H' _ _ p => SqL.of (p.1 _ _ e7b)) (fun D i x H' hx hD p => ?_) (fun D HA hD p => ?_)
  · obtain ⟨c, vs2, hL, hv⟩ := p
    have hi : i < us.length := (List.getElem?_eq_some_iff.mp hx).1
    have ul := u7b.length
    have hg : (m0.tells w)[i]? = some ((m0.tells w)[i]'(by omega)) := List.getElem?_eq_getElem _
    generalize (m0.tells w)[i]'(by omega) = tt at hg
    obtain ⟨u, hu, tu⟩ := u7b.get i hg
    rw [hx] at hu
    cases hu
    have hvl := hv.length
    rw [List.length_map, List.length_take] at hvl
    refine ⟨rfl, et_yes _ (iteT (s_call (ea_cons (ev_var rfl) (ea_cons (ev_var rfl) ea_nil)) ⟨x, tt, more.length, rfl, TellAt.mono (fun b xs e => c _ _ e) tu, fun v' H2 k2 tv => ?_⟩))⟩
    have hL2 := k2 _ _ hL
    have tp := tups_put4 (o' := .lst (vs2 ++ [v'])) hL2 (fun ys e => by cases e)
    refine ⟨vs2, hL2, by rw [hvl]; exact Nat.lt_of_le_of_lt (by omega : _ ≤ 1000) (by decide), same_newer (Same.trans c k2) hD, vs2 ++ [v'], upd_same, ?_⟩
    rw [take_snoc hg, List.map_append]
    exact ((hv.mono fun _ _ => TellAt.mono fun b xs e => tp _ _ (k2 _ _ e))).snoc (TellAt.mono tp tv)
  obtain ⟨cA, vs2, hL, hv⟩ := p
  rw [u7b.length, List.take_length] at hv
  refine ne_skip (d := .list (((m0.tells w).map (Tell.lower more.length)).map tellD)) (.lst (SqL.of (cA _ _ e9)) (tells_dp (u9.mono fun _ _ => TellAt.mono fun b xs e => cA _ _ e))) (.lst (SqL.of hL) (tells_dp hv)) (okD_tells _) (by decide) ?_
  have sA := Same.trans s8 (Same.trans s9 cA)
  clear hL hv e9 u9 u7b e7b cA s9 fl9 e8 k8 s8 u7 e7 g7 s7 hl8 hD
  -- two machines
  walk_at "q"
  refine s_par_of (t_cons_of (s_machine (ea_cons (ev_var rfl) (ea_cons (ev_var rfl) (ea_cons (ev_var rfl) ea_nil))) (SqL.of (sA _ _ e3')) (hp4.same sA).progs (hr4.mono fun b xs e => sA _ _ e) okv fun A H10 c10 ownA TA => ?_))
  rw [hm0] at TA
  have sB := Same.trans sA c10
  refine t_cons_of (t_make_of (t_cons_of (t_op_of (ev_var rfl _ (ev_var rfl _ ⟨lm, l4, _, _, rfl, rfl, sB _ _ e4, sB _ _ e3', by rw [List.length_map, List.length_map]; exact Nat.le_trans (by omega : _ ≤ 10) (by decide), fun l11 hl11 => t_cons_of (ev_var rfl _ (t_cons_of (ev_var rfl _ ?_)))⟩)))))
  have k11 : Same H10 (upd H10 l11 (.lst (more.map V.int ++ vs.map V.int))) := Same.new hl11
  have e11 : (upd H10 l11 (.lst (more.map V.int ++ vs.map V.int))) l11 = some (.lst ((more ++ vs).map V.int)) := by rw [upd_same, List.map_append]
  generalize upd H10 l11 (.lst (more.map V.int ++ vs.map V.int)) = H11 at k11 e11 ⊢
  have sC := Same.trans sB k11
  show ∀ (x dx : Addr), H11 x = none → _
  intro x dx hx hdx ne
  refine machine_at hx hdx ne (SqL.of e11) (hp4.same sC).progs (hr4.mono fun b xs e => sC _ _ e) okm fun B H12 eB c12 ownB TB => ?_
  subst eB
  refine ⟨_, _, rfl, ?_⟩
  have c11 := Same.trans c10 k11
  have ap : Apart HA A B := ⟨ownA, fun a h => free_of c11 (ownB a h), fun a h h2 => by
    obtain ⟨r0, hr0⟩ := h
    obtain ⟨o, ho, _⟩ := TA.at_ r0 a hr0
    have := k11 _ _ ho
    rw [ownB a h2] at this
    cases this⟩
  generalize hmm : M.begin_ (more ++ vs) ps r = mm0 at S0 fm et SF TB
  have tw : Two Z HA H12 A B m0 mm0 := ⟨Same.trans c11 c12, (TA.same k11).same c12, TB⟩
  clear TA TB ownA ownB c11 c12 c10 k11 e11 hl11 sC sB
  dsimp only
  walk_at "q"
  refine s_forL (xs := w.map natV) (ev_var rfl) (SqL.of ((Same.trans sA tw.s) _ _ hw4)) (fun i s' H' => ∃ y : Option V, s' = [some (V.ref sc), some (.ref d), some (.ref l4), some (.ref lp), some (.ref lr), some (.ref lw), some (.ref lm), none, some (.int (more.length : Nat)), some (.ref ls), none, some (.ref A.p), some (.ref B.p), y, none] ∧ Two Z HA H' A B (m0.run (w.take i)) (mm0.run (w.take i)))
    ⟨none, rfl, tw⟩ (fun i s' H' _ ⟨_, _, tw⟩ => SqL.of ((Same.trans sA tw.s) _ _ hw4)) (fun i y s' H' hy p => ?_) (fun s' H' p => ?_)
  · obtain ⟨y0, rfl, tw⟩ := p
    obtain ⟨h, hwi, rfl⟩ := map_get hy
    have hl := hh h (List.mem_of_getElem? hwi)
    have fa : Fine ps r (m0.run (w.take i)) := f0.run fun x hx => hh x (List.mem_of_mem_take hx)
    have fb : Fine ps r (mm0.run (w.take i)) := fm.run fun x hx => hh x (List.mem_of_mem_take hx)
    rw [take_snoc hwi, run_snoc, run_snoc]
    dsimp only [gName]
    walk_at "q"
    refine s_drop' (s_turn rfl (ev_var rfl) tw.a fa.wf (by rw [fa.hn]; exact hl) fun v H2 T C t => ?_)
    have tw2 := tw.turnA ap T C
    refine s_drop' (s_turn rfl (ev_var rfl) tw2.b fb.wf (by rw [fb.hn]; exact hl) fun v H3 T C t => ?_)
    exact ⟨_, rfl, tw2.turnB ap T C⟩
  obtain ⟨y, rfl, tw⟩ := p
  rw [List.length_map, List.take_length] at tw
  have fa : Fine ps r (m0.run w) := f0.run hh
  have fb : Fine ps r (mm0.run w) := fm.run hh
  have Li : (m0.run w).strayed = false → ∃ p, Lin vs (m0.run w) p := fun e => by
    rw [← hm0] at e ⊢
    exact Lin.run_from okv hh e
  generalize m0.run w = m at tw fa Li SF
  generalize mm0.run w = mm at tw fb SF
  have e4A := sA _ _ e4
  clear et S0 nt f0 fm hm0 hmm
  dsimp only
  -- how they stand
  walk_at "q"
  refine s_if_of (t_or_of (t_test_of (t_op_of (s_meth (ev_var rfl) tw.a.obj (mf_no _ _ _ (by simp)) ea_nil ⟨A, m, rfl, tw.a, (s_meth (ev_var rfl) tw.b.obj (mf_no _ _ _ (by simp)) ea_nil ⟨B, mm, rfl, tw.b, ⟨rfl, ⟨_, rfl, ?_⟩⟩⟩)⟩))))
  rw [SF.strayed, decide_eq_true rfl]
  refine iteF ?_
  refine t_test_of (t_op_of (s_meth (ev_var rfl) tw.a.obj (mf_no _ _ _ (by simp)) ea_nil ⟨A, m, rfl, tw.a, fun l1 us1 hl1 hu1 => ?_⟩))
  have k1 : Same H' (upd H' l1 (.lst us1)) := Same.new hl1
  have g1 : (upd H' l1 (.lst us1)) l1 = some (.lst us1) := upd_same
  have hu1' := hu1.mono fun _ _ => PairAt.mono fun b xs e => k1 _ _ e
  have tw1 := tw.same k1
  generalize upd H' l1 (.lst us1) = H1' at k1 g1 hu1' tw1 ⊢
  refine s_meth (ev_var rfl) tw1.b.obj (mf_no _ _ _ (by simp)) ea_nil ⟨B, mm, rfl, tw1.b, fun l2 us2 hl2 hu2 => ?_⟩
  have k2 : Same H1' (upd H1' l2 (.lst us2)) := Same.new hl2
  have g2 : (upd H1' l2 (.lst us2)) l2 = some (.lst us2) := upd_same
  have hu2' := hu2.mono fun _ _ => PairAt.mono fun b xs e => k2 _ _ e
  have hu1b := hu1'.mono fun _ _ => PairAt.mono fun b xs e => k2 _ _ e
  have g1b := k2 _ _ g1
  have tw2 := tw1.same k2
  generalize upd H1' l2 (.lst us2) = H2' at k2 g2 hu2' hu1b g1b tw2 ⊢
  rw [SF.ends] at hu2'
  refine ne_skip (d := .list (m.ends.map pairD)) (orderDp g1b hu1b) (orderDp g2 hu2') (okD_order _) (by decide) ?_
  clear tw tw1 g1 g1b g2 hu1 hu1' hu1b hu2 hu2' k1 k2 hl1 hl2
  have flen : m.freed.length ≤ 1000 := by have := fa.wf.fl; omega
  walk_at "q"
  refine s_if_of (t_test_of (t_op_of (s_meth (ev_var rfl) tw2.b.obj (mf_no _ _ _ (by simp)) ea_nil ⟨B, mm, rfl, tw2.b, fun l3 hl3 => ?_⟩)))
  have k3 : Same H2' (upd H2' l3 (.lst (mm.freed.map natV))) := Same.new hl3
  have g3 : (upd H2' l3 (.lst (mm.freed.map natV))) l3 = some (.lst ((m.freed.map (· + more.length)).map natV)) := by rw [upd_same, SF.freed]
  have tw3 := tw2.same k3
  generalize upd H2' l3 (.lst (mm.freed.map natV)) = H3' at k3 g3 tw3 ⊢
  refine e_lcLX (s_meth (ev_var rfl) tw3.a.obj (mf_no _ _ _ (by simp)) ea_nil ⟨A, m, rfl, tw3.a, fun l5 hl5 => ⟨l5, rfl, ?_⟩⟩)
  have k5 : Same H3' (upd H3' l5 (.lst (m.freed.map natV))) := Same.new hl5
  refine e_up (n := more.length) ev_c upd_same (by show 14 < 15; decide) rfl (by decide) flen fun D H5' hD k6 g6 => ?_
  have k56 := Same.trans k5 k6
  refine ne_skip (natD (k56 _ _ g3)) (natD g6) (okD_ints _) (by decide) ?_
  have tw5 := tw3.same k56
  clear tw2 tw3 g3 g6 k3 k5 k6 k56 hl3 hl5 hD
  -- the top
  walk_at "q"
  refine s_if_of (t_test_of (t_op_of (s_meth (ev_var rfl) tw5.b.obj (mf_no _ _ _ (by simp)) ea_nil ⟨B, mm, rfl, tw5.b, fun l6 hl6 => ?_⟩)))
  have k6 : Same H5' (upd H5' l6 (.tup [natV mm.top, natV mm.count])) := Same.new hl6
  have g6 : (upd H5' l6 (.tup [natV mm.top, natV mm.count])) l6 = some (.tup [.int (mm.top : Nat), .int (mm.count : Nat)]) := upd_same
  have tw6 := tw5.same k6
  generalize upd H5' l6 (.tup [natV mm.top, natV mm.count]) = H6' at k6 g6 tw6 ⊢
  refine t_tup_of (t_cons_of (t_op_of (t_op_of (s_meth (ev_var rfl) tw6.a.obj (mf_no _ _ _ (by simp)) ea_nil ⟨A, m, rfl, tw6.a, fun l7 hl7 => ?_⟩))))
  have k7 : Same H6' (upd H6' l7 (.tup [natV m.top, natV m.count])) := Same.new hl7
  have g7 : (upd H6' l7 (.tup [natV m.top, natV m.count])) l7 = some (.tup [.int (m.top : Nat), .int (m.count : Nat)]) := upd_same
  have tw7 := tw6.same k7
  have g6b := k7 _ _ g6
  generalize upd H6' l7 (.tup [natV m.top, natV m.count]) = H7' at k7 g7 g6b tw7 ⊢
  refine ev_c _ ⟨l7, _, 0, .int (m.top : Nat), rfl, rfl, SqT.of g7, atI_nat (j := 0) rfl, ev_var (v := .int (more.length : Nat)) rfl _ ⟨(m.top : Nat), (more.length : Nat), rfl, rfl, ?_⟩⟩
  refine t_cons_of (t_op_of (s_meth (ev_var rfl) tw7.a.obj (mf_no _ _ _ (by simp)) ea_nil ⟨A, m, rfl, tw7.a, fun l8 hl8 => ?_⟩))
  have k8 : Same H7' (upd H7' l8 (.tup [natV m.top, natV m.count])) := Same.new hl8
  have g8 : (upd H7' l8 (.tup [natV m.top, natV m.count])) l8 = some (.tup [.int (m.top : Nat), .int (m.count : Nat)]) := upd_same
  have tw8 := tw7.same k8
  have g6c := k8 _ _ g6b
  generalize upd H7' l8 (.tup [natV m.top, natV m.count]) = H8' at k8 g8 g6c tw8 ⊢
  refine ev_c _ ⟨l8, _, 1, .int (m.count : Nat), rfl, rfl, SqT.of g8, atI_nat (j := 1) rfl, ⟨by show 2 ≤ sizeLine; decide, fun p9 hp9 => ?_⟩⟩
  have k9 : Same H8' (upd H8' p9 (.tup [.int ((m.top : Int) + (more.length : Int)), .int (m.count : Nat)])) := Same.new hp9
  have g9 : (upd H8' p9 (.tup [.int ((m.top : Int) + (more.length : Int)), .int (m.count : Nat)])) p9 = some (.tup [.int ((mm.top : Nat) : Int), .int (mm.count : Nat)]) := by
    rw [upd_same, SF.top, SF.count]
    rfl
  refine ne_skip (d := .tuple [.int (mm.top : Nat), .int (mm.count : Nat)]) (n := 1) (.tup (SqT.of (k9 _ _ g6c)) (.cons (.int _) (.cons (.int _) .nil))) (.tup (SqT.of g9) (.cons (.int _) (.cons (.int _) .nil))) (okD_tup fun y hy => ?_) (by decide) ?_
  · simp only [List.mem_cons, List.not_mem_nil, or_false] at hy
    rcases hy with rfl | rfl <;> exact okD_int _
  have tw9 := tw8.same k9
  clear tw5 tw6 tw7 tw8 g6 g6b g6c g7 g8 g9 k6 k7 k8 k9
  generalize upd H8' p9 _ = H9' at tw9 ⊢
  walk_at "q"
  refine s_if_of (t_B_of (s_meth (ev_var rfl) tw9.a.obj (mf_no _ _ _ (by simp)) ea_nil ⟨A, m, rfl, tw9.a, ⟨_, rfl, ?_⟩⟩))
  by_cases st : m.strayed = true
  · rw [st]
    exact iteT (s_ret ev_c (q _))
  have st' : m.strayed = false := by
    cases z : m.strayed with
    | true => exact absurd z st
    | false => rfl
  rw [st']
  refine iteF ?_
  dsimp only [tNext]
  obtain ⟨p, L⟩ := Li st'
  have ppl : p.length ≤ 1000 := by
    have h1 := nodup_len m.worths.length L.nd L.pin
    have h2 := fa.wn
    omega
  have ep := SF.pile L
  have ev := SF.pileVals L
  -- the piles
  walk_at "q"
  refine s_if_of (t_test_of (t_op_of (t_sl_of (s_meth (ev_var rfl) tw9.b.obj (mf_no _ _ _ (by simp)) ea_nil ⟨B, mm, rfl, tw9.b, fb.pile, fun l1 H1 hl1 s1 g1 => ?_⟩))))
  have tw1 := tw9.same s1
  refine t_cb_of (t_cons_of (s_meth (ev_var rfl) tw1.a.obj (mf_no _ _ _ (by simp)) ea_nil ⟨A, m, rfl, tw1.a, fa.pile, fun l2 H2 hl2 s2 g2 => ⟨l2, _, rfl, .inl (SqL.of g2), ⟨_, rfl, l1, _, rfl, SqL.of (s2 _ _ g1), fun l3 hl3 => ?_⟩⟩⟩))
  rw [cut_take, List.length_map]
  have k3 : Same H2 (upd H2 l3 (.lst ((mm.pile.map natV).take m.pile.length))) := Same.new hl3
  have g3 : (upd H2 l3 (.lst ((mm.pile.map natV).take m.pile.length))) l3 = some (.lst ((p.map (· + more.length)).map natV)) := by
    rw [upd_same, ep, L.pile, List.map_append, List.take_left' (by rw [List.length_map, List.length_map])]
  have tw3 := (tw1.same s2).same k3
  generalize upd H2 l3 (.lst ((mm.pile.map natV).take m.pile.length)) = H3 at k3 g3 tw3 ⊢
  refine e_lcLX (s_meth (ev_var rfl) tw3.a.obj (mf_no _ _ _ (by simp)) ea_nil ⟨A, m, rfl, tw3.a, fa.pile, fun l5 H5 hl5 s5 g5 => ⟨l5, rfl, ?_⟩⟩)
  rw [L.pile] at g5
  refine e_up (n := more.length) ev_c g5 (by show 14 < 15; decide) rfl (by decide) ppl fun D H6 hD k6 g6 => ?_
  have k56 := Same.trans s5 k6
  refine ne_skip (natD (k56 _ _ g3)) (natD g6) (okD_ints _) (by decide) ?_
  have tw6 := tw3.same k56
  clear g1 g2 g3 g5 g6 tw1 tw3 tw9
  dsimp only
  refine s_ret_of (t_op_of (s_meth (ev_var rfl) tw6.b.obj (mf_no _ _ _ (by simp)) ea_nil ⟨B, mm, rfl, tw6.b, fb.pile, fun l7 H7 hl7 s7 g7 => ?_⟩))
  have tw7 := tw6.same s7
  refine t_op_of (s_meth (ev_var rfl) tw7.a.obj (mf_no _ _ _ (by simp)) ea_nil ⟨A, m, rfl, tw7.a, fa.pile, fun l8 H8 hl8 s8 g8 => ?_⟩)
  have e4b := (Same.trans tw7.s s8) _ _ e4A
  refine t_rev4_of (ev_var rfl) (SqL.of e4b) fun l9 hl9 => ?_
  have k9 : Same H8 (upd H8 l9 (.lst (more.map V.int).reverse)) := Same.new hl9
  have g9 : (upd H8 l9 (.lst (more.map V.int).reverse)) l9 = some (.lst (more.reverse.map V.int)) := by rw [upd_same, List.map_reverse]
  generalize upd H8 l9 (.lst (more.map V.int).reverse) = H9 at k9 g9 ⊢
  refine ⟨l8, l9, _, _, rfl, rfl, k9 _ _ g8, g9, ?_, fun l10 hl10 => ?_⟩
  · rw [List.length_map, List.length_map, List.length_reverse]
    have := fa.plenV
    exact Nat.le_trans (by omega : _ ≤ 2000) (by decide)
  have k10 : Same H9 (upd H9 l10 (.lst (m.pileValues.map V.int ++ more.reverse.map V.int))) := Same.new hl10
  have g10 : (upd H9 l10 (.lst (m.pileValues.map V.int ++ more.reverse.map V.int))) l10 = some (.lst (mm.pileValues.map V.int)) := by rw [upd_same, ev, List.map_append]
  have s10 := Same.trans s8 (Same.trans k9 k10)
  exact eq_same (d := .list (mm.pileValues.map PyData.int)) (.lst (SqL.of (s10 _ _ g7)) (dp_ints _)) (.lst (SqL.of g10) (dp_ints _)) (okD_ints _) (by decide) (q _)
end SS

namespace SS
open PySem L2
theorem len_need_values {Z : Cs} {vs : List V} {H : Hp} {Q : VK} {E : XK} (h : sp_need_values Z vs H Q E) : vs.length = 1 := by
  obtain ⟨_, _, rfl, _⟩ := h
  rfl
theorem len_is_deed {Z : Cs} {vs : List V} {H : Hp} {Q : VK} {E : XK} (h : sp_is_deed Z vs H Q E) : vs.length = 1 := by
  obtain ⟨_, _, rfl, _⟩ := h
  rfl
theorem len_need_deeds {Z : Cs} {vs : List V} {H : Hp} {Q : VK} {E : XK} (h : sp_need_deeds Z vs H Q E) : vs.length = 2 := by
  obtain ⟨_, _, _, rfl, _⟩ := h
  rfl
theorem len_need_programs {Z : Cs} {vs : List V} {H : Hp} {Q : VK} {E : XK} (h : sp_need_programs Z vs H Q E) : vs.length = 1 := by
  obtain ⟨_, _, rfl, _⟩ := h
  rfl
theorem len_need_rule {Z : Cs} {vs : List V} {H : Hp} {Q : VK} {E : XK} (h : sp_need_rule Z vs H Q E) : vs.length = 2 := by
  obtain ⟨_, _, _, rfl, _⟩ := h
  rfl
theorem len_H_init {Z : Cs} {vs : List V} {H : Hp} {Q : VK} {E : XK} (h : sp_H_init Z vs H Q E) : vs.length = 2 := by
  obtain ⟨_, _, _, _, _, rfl, _⟩ := h
  rfl
theorem len_M_init {Z : Cs} {vs : List V} {H : Hp} {Q : VK} {E : XK} (h : sp_M_init Z vs H Q E) : vs.length = 4 := by
  obtain ⟨_, _, _, _, _, _, _, _, rfl, _⟩ := h
  rfl
theorem len_M_need_hand {Z : Cs} {vs : List V} {H : Hp} {Q : VK} {E : XK} (h : sp_M_need_hand Z vs H Q E) : vs.length = 2 := by
  obtain ⟨_, _, _, _, rfl, _⟩ := h
  rfl
theorem len_M_rests {Z : Cs} {vs : List V} {H : Hp} {Q : VK} {E : XK} (h : sp_M_rests Z vs H Q E) : vs.length = 2 := by
  obtain ⟨_, _, _, _, rfl, _⟩ := h
  rfl
theorem len_M_marks {Z : Cs} {vs : List V} {H : Hp} {Q : VK} {E : XK} (h : sp_M_marks Z vs H Q E) : vs.length = 1 := by
  obtain ⟨_, _, rfl, _⟩ := h
  rfl
theorem len_M_taken {Z : Cs} {vs : List V} {H : Hp} {Q : VK} {E : XK} (h : sp_M_taken Z vs H Q E) : vs.length = 2 := by
  obtain ⟨_, _, _, rfl, _⟩ := h
  rfl
theorem len_M_forget {Z : Cs} {vs : List V} {H : Hp} {Q : VK} {E : XK} (h : sp_M_forget Z vs H Q E) : vs.length = 2 := by
  obtain ⟨_, _, _, _, rfl, _⟩ := h
  rfl
theorem len_M_ended {Z : Cs} {vs : List V} {H : Hp} {Q : VK} {E : XK} (h : sp_M_ended Z vs H Q E) : vs.length = 3 := by
  obtain ⟨_, _, _, _, _, rfl, _⟩ := h
  rfl
theorem len_M_read {Z : Cs} {vs : List V} {H : Hp} {Q : VK} {E : XK} (h : sp_M_read Z vs H Q E) : vs.length = 2 := by
  obtain ⟨_, _, _, _, _, rfl, _⟩ := h
  rfl
theorem len_M_exchange {Z : Cs} {vs : List V} {H : Hp} {Q : VK} {E : XK} (h : sp_M_exchange Z vs H Q E) : vs.length = 3 := by
  obtain ⟨_, _, _, _, _, rfl, _⟩ := h
  rfl
theorem len_M_push {Z : Cs} {vs : List V} {H : Hp} {Q : VK} {E : XK} (h : sp_M_push Z vs H Q E) : vs.length = 2 := by
  obtain ⟨_, _, _, _, _, _, rfl, _⟩ := h
  rfl
theorem len_M_guard {Z : Cs} {vs : List V} {H : Hp} {Q : VK} {E : XK} (h : sp_M_guard Z vs H Q E) : vs.length = 3 := by
  obtain ⟨_, _, _, _, _, rfl, _⟩ := h
  rfl
theorem len_M_pop {Z : Cs} {vs : List V} {H : Hp} {Q : VK} {E : XK} (h : sp_M_pop Z vs H Q E) : vs.length = 2 := by
  obtain ⟨_, _, _, _, _, _, rfl, _⟩ := h
  rfl
theorem len_M_turn {Z : Cs} {vs : List V} {H : Hp} {Q : VK} {E : XK} (h : sp_M_turn Z vs H Q E) : vs.length = 2 := by
  obtain ⟨_, _, _, rfl, _⟩ := h
  rfl
theorem len_M_is_done {Z : Cs} {vs : List V} {H : Hp} {Q : VK} {E : XK} (h : sp_M_is_done Z vs H Q E) : vs.length = 1 := by
  obtain ⟨_, _, rfl, _⟩ := h
  rfl
theorem len_M_is_stale {Z : Cs} {vs : List V} {H : Hp} {Q : VK} {E : XK} (h : sp_M_is_stale Z vs H Q E) : vs.length = 1 := by
  obtain ⟨_, _, rfl, _⟩ := h
  rfl
theorem len_M_answers {Z : Cs} {vs : List V} {H : Hp} {Q : VK} {E : XK} (h : sp_M_answers Z vs H Q E) : vs.length = 2 := by
  obtain ⟨_, _, _, _, rfl, _⟩ := h
  rfl
theorem len_M_marked {Z : Cs} {vs : List V} {H : Hp} {Q : VK} {E : XK} (h : sp_M_marked Z vs H Q E) : vs.length = 2 := by
  obtain ⟨_, _, _, _, rfl, _⟩ := h
  rfl
theorem len_M_order {Z : Cs} {vs : List V} {H : Hp} {Q : VK} {E : XK} (h : sp_M_order Z vs H Q E) : vs.length = 1 := by
  obtain ⟨_, _, rfl, _⟩ := h
  rfl
theorem len_M_free {Z : Cs} {vs : List V} {H : Hp} {Q : VK} {E : XK} (h : sp_M_free Z vs H Q E) : vs.length = 1 := by
  obtain ⟨_, _, rfl, _⟩ := h
  rfl
theorem len_M_top_now {Z : Cs} {vs : List V} {H : Hp} {Q : VK} {E : XK} (h : sp_M_top_now Z vs H Q E) : vs.length = 1 := by
  obtain ⟨_, _, rfl, _⟩ := h
  rfl
theorem len_M_nexts {Z : Cs} {vs : List V} {H : Hp} {Q : VK} {E : XK} (h : sp_M_nexts Z vs H Q E) : vs.length = 1 := by
  obtain ⟨_, _, rfl, _⟩ := h
  rfl
theorem len_M_pile {Z : Cs} {vs : List V} {H : Hp} {Q : VK} {E : XK} (h : sp_M_pile Z vs H Q E) : vs.length = 1 := by
  obtain ⟨_, _, rfl, _⟩ := h
  rfl
theorem len_M_pile_values {Z : Cs} {vs : List V} {H : Hp} {Q : VK} {E : XK} (h : sp_M_pile_values Z vs H Q E) : vs.length = 1 := by
  obtain ⟨_, _, rfl, _⟩ := h
  rfl
theorem len_serial {Z : Cs} {vs : List V} {H : Hp} {Q : VK} {E : XK} (h : sp_serial Z vs H Q E) : vs.length = 2 := by
  obtain ⟨_, _, _, _, _, rfl, _⟩ := h
  rfl
theorem len_played {Z : Cs} {vs : List V} {H : Hp} {Q : VK} {E : XK} (h : sp_played Z vs H Q E) : vs.length = 4 := by
  obtain ⟨_, _, _, _, _, _, _, _, rfl, _⟩ := h
  rfl
theorem len_whole {Z : Cs} {vs : List V} {H : Hp} {Q : VK} {E : XK} (h : sp_whole Z vs H Q E) : vs.length = 4 := by
  obtain ⟨_, _, _, _, _, _, _, _, rfl, _⟩ := h
  rfl
theorem len_L_dice {Z : Cs} {vs : List V} {H : Hp} {Q : VK} {E : XK} (h : sp_L_dice Z vs H Q E) : vs.length = 1 := by
  obtain ⟨_, _, rfl, _⟩ := h
  rfl
theorem len_L_next {Z : Cs} {vs : List V} {H : Hp} {Q : VK} {E : XK} (h : sp_L_next Z vs H Q E) : vs.length = 2 := by
  obtain ⟨_, _, rfl, _⟩ := h
  rfl
theorem len_L_values {Z : Cs} {vs : List V} {H : Hp} {Q : VK} {E : XK} (h : sp_L_values Z vs H Q E) : vs.length = 2 := by
  obtain ⟨_, _, rfl, _⟩ := h
  rfl
theorem len_L_deed {Z : Cs} {vs : List V} {H : Hp} {Q : VK} {E : XK} (h : sp_L_deed Z vs H Q E) : vs.length = 1 := by
  obtain ⟨_, rfl, _⟩ := h
  rfl
theorem len_L_programs {Z : Cs} {vs : List V} {H : Hp} {Q : VK} {E : XK} (h : sp_L_programs Z vs H Q E) : vs.length = 3 := by
  obtain ⟨_, _, _, rfl, _⟩ := h
  rfl
theorem len_L_rule {Z : Cs} {vs : List V} {H : Hp} {Q : VK} {E : XK} (h : sp_L_rule Z vs H Q E) : vs.length = 2 := by
  obtain ⟨_, _, rfl, _⟩ := h
  rfl
theorem len_L_weaving {Z : Cs} {vs : List V} {H : Hp} {Q : VK} {E : XK} (h : sp_L_weaving Z vs H Q E) : vs.length = 3 := by
  obtain ⟨_, _, _, rfl, _⟩ := h
  rfl
theorem len_L_case {Z : Cs} {vs : List V} {H : Hp} {Q : VK} {E : XK} (h : sp_L_case Z vs H Q E) : vs.length = 1 := by
  obtain ⟨_, rfl, _⟩ := h
  rfl
theorem len_L_stand {Z : Cs} {vs : List V} {H : Hp} {Q : VK} {E : XK} (h : sp_L_stand Z vs H Q E) : vs.length = 2 := by
  obtain ⟨_, _, _, rfl, _⟩ := h
  rfl
theorem len_L_again {Z : Cs} {vs : List V} {H : Hp} {Q : VK} {E : XK} (h : sp_L_again Z vs H Q E) : vs.length = 1 := by
  obtain ⟨_, _, _, _, rfl, _⟩ := h
  rfl
theorem len_L_ends {Z : Cs} {vs : List V} {H : Hp} {Q : VK} {E : XK} (h : sp_L_ends Z vs H Q E) : vs.length = 2 := by
  obtain ⟨_, _, _, _, _, rfl, _⟩ := h
  rfl
theorem len_L_cell {Z : Cs} {vs : List V} {H : Hp} {Q : VK} {E : XK} (h : sp_L_cell Z vs H Q E) : vs.length = 3 := by
  obtain ⟨_, _, _, _, _, rfl, _⟩ := h
  rfl
theorem len_L_swaps {Z : Cs} {vs : List V} {H : Hp} {Q : VK} {E : XK} (h : sp_L_swaps Z vs H Q E) : vs.length = 3 := by
  obtain ⟨_, _, _, _, _, rfl, _⟩ := h
  rfl
theorem len_L_pop {Z : Cs} {vs : List V} {H : Hp} {Q : VK} {E : XK} (h : sp_L_pop Z vs H Q E) : vs.length = 2 := by
  obtain ⟨_, _, _, _, _, _, rfl, _⟩ := h
  rfl
theorem len_L_turn {Z : Cs} {vs : List V} {H : Hp} {Q : VK} {E : XK} (h : sp_L_turn Z vs H Q E) : vs.length = 2 := by
  obtain ⟨_, _, _, rfl, _⟩ := h
  rfl
theorem len_L_pile {Z : Cs} {vs : List V} {H : Hp} {Q : VK} {E : XK} (h : sp_L_pile Z vs H Q E) : vs.length = 1 := by
  obtain ⟨_, _, rfl, _⟩ := h
  rfl
theorem len_L_begun {Z : Cs} {vs : List V} {H : Hp} {Q : VK} {E : XK} (h : sp_L_begun Z vs H Q E) : vs.length = 3 := by
  obtain ⟨_, _, _, _, _, _, rfl, _⟩ := h
  rfl
theorem len_L_due {Z : Cs} {vs : List V} {H : Hp} {Q : VK} {E : XK} (h : sp_L_due Z vs H Q E) : vs.length = 4 := by
  obtain ⟨_, _, _, _, _, _, _, _, rfl, _⟩ := h
  rfl
theorem len_L_serial {Z : Cs} {vs : List V} {H : Hp} {Q : VK} {E : XK} (h : sp_L_serial Z vs H Q E) : vs.length = 2 := by
  obtain ⟨_, _, _, _, _, rfl, _⟩ := h
  rfl
theorem len_L_step {Z : Cs} {vs : List V} {H : Hp} {Q : VK} {E : XK} (h : sp_L_step Z vs H Q E) : vs.length = 3 := by
  obtain ⟨_, _, _, _, _, _, rfl, _⟩ := h
  rfl
theorem len_L_is_right {Z : Cs} {vs : List V} {H : Hp} {Q : VK} {E : XK} (h : sp_L_is_right Z vs H Q E) : vs.length = 2 := by
  obtain ⟨_, _, _, _, _, _, _, _, _, rfl, _⟩ := h
  rfl
theorem len_L_lower {Z : Cs} {vs : List V} {H : Hp} {Q : VK} {E : XK} (h : sp_L_lower Z vs H Q E) : vs.length = 2 := by
  obtain ⟨_, _, _, rfl, _⟩ := h
  rfl
theorem len_law {Z : Cs} {vs : List V} {H : Hp} {Q : VK} {E : XK} (h : sp_law Z vs H Q E) : vs.length = 1 := by
  obtain ⟨_, _, rfl, _⟩ := h
  rfl

end SS
set_option Elab.async false
set_option linter.all false
set_option maxRecDepth 100000
set_option maxHeartbeats 0
namespace SR
open PySem PySem.Spec PyProof.Rows L2 SS
def top (i : Nat) : Stmt := PySem.Challenge.pw_stalestack_k36_whole_deeper_piles.main.body.getD i (.Pass ⟨0, 0, 0, 0⟩)
abbrev s_L_dice : Stmt := top 25
def d_L_dice : He.DefD := ⟨("_law_dice", none), "_law_dice", "_law_dice", defArgs s_L_dice, defBody s_L_dice, defScope s_L_dice, [], []⟩
abbrev s_L_next : Stmt := top 26
def d_L_next : He.DefD := ⟨("_law_next", none), "_law_next", "_law_next", defArgs s_L_next, defBody s_L_next, defScope s_L_next, [], []⟩
abbrev s_L_values : Stmt := top 27
def d_L_values : He.DefD := ⟨("_law_values", none), "_law_values", "_law_values", defArgs s_L_values, defBody s_L_values, defScope s_L_values, [], []⟩
abbrev s_L_deed : Stmt := top 28
def d_L_deed : He.DefD := ⟨("_law_deed", none), "_law_deed", "_law_deed", defArgs s_L_deed, defBody s_L_deed, defScope s_L_deed, [], []⟩
abbrev s_L_programs : Stmt := top 29
def d_L_programs : He.DefD := ⟨("_law_programs", none), "_law_programs", "_law_programs", defArgs s_L_programs, defBody s_L_programs, defScope s_L_programs, [], []⟩
abbrev s_L_weaving : Stmt := top 31
def d_L_weaving : He.DefD := ⟨("_law_weaving", none), "_law_weaving", "_law_weaving", defArgs s_L_weaving, defBody s_L_weaving, defScope s_L_weaving, [], []⟩
abbrev s_L_rule : Stmt := top 30
def d_L_rule : He.DefD := ⟨("_law_rule", none), "_law_rule", "_law_rule", defArgs s_L_rule, defBody s_L_rule, defScope s_L_rule, [], []⟩
abbrev s_L_case : Stmt := top 32
def d_L_case : He.DefD := ⟨("_law_case", none), "_law_case", "_law_case", defArgs s_L_case, defBody s_L_case, defScope s_L_case, [], []⟩
abbrev s_need_values : Stmt := top 13
def d_need_values : He.DefD := ⟨("need_values", none), "need_values", "need_values", defArgs s_need_values, defBody s_need_values, defScope s_need_values, [], []⟩
abbrev s_is_deed : Stmt := top 14
def d_is_deed : He.DefD := ⟨("is_deed", none), "is_deed", "is_deed", defArgs s_is_deed, defBody s_is_deed, defScope s_is_deed, [], []⟩
abbrev s_need_deeds : Stmt := top 15
def d_need_deeds : He.DefD := ⟨("need_deeds", none), "need_deeds", "need_deeds", defArgs s_need_deeds, defBody s_need_deeds, defScope s_need_deeds, [], []⟩
abbrev s_need_programs : Stmt := top 16
def d_need_programs : He.DefD := ⟨("need_programs", none), "need_programs", "need_programs", defArgs s_need_programs, defBody s_need_programs, defScope s_need_programs, [], []⟩
abbrev s_need_rule : Stmt := top 17
def d_need_rule : He.DefD := ⟨("need_rule", none), "need_rule", "need_rule", defArgs s_need_rule, defBody s_need_rule, defScope s_need_rule, [], []⟩
abbrev s_H_init : Stmt := inClass (top 19) 0
def d_H_init : He.DefD := ⟨("Hand", some "__init__"), "__init__", "Hand.__init__", defArgs s_H_init, defBody s_H_init, defScope s_H_init, [], []⟩
abbrev s_M_init : Stmt := inClass (top 20) 0
def d_M_init : He.DefD := ⟨("Machine", some "__init__"), "__init__", "Machine.__init__", defArgs s_M_init, defBody s_M_init, defScope s_M_init, [], []⟩
abbrev s_M_need_hand : Stmt := inClass (top 20) 3
def d_M_need_hand : He.DefD := ⟨("Machine", some "need_hand"), "need_hand", "Machine.need_hand", defArgs s_M_need_hand, defBody s_M_need_hand, defScope s_M_need_hand, [], []⟩
abbrev s_M_rests : Stmt := inClass (top 20) 4
def d_M_rests : He.DefD := ⟨("Machine", some "rests"), "rests", "Machine.rests", defArgs s_M_rests, defBody s_M_rests, defScope s_M_rests, [], []⟩
abbrev s_M_marks : Stmt := inClass (top 20) 15
def d_M_marks : He.DefD := ⟨("Machine", some "marks"), "marks", "Machine.marks", defArgs s_M_marks, defBody s_M_marks, defScope s_M_marks, [], []⟩
abbrev s_M_taken : Stmt := inClass (top 20) 16
def d_M_taken : He.DefD := ⟨("Machine", some "taken"), "taken", "Machine.taken", defArgs s_M_taken, defBody s_M_taken, defScope s_M_taken, [], []⟩
abbrev s_M_forget : Stmt := inClass (top 20) 20
def d_M_forget : He.DefD := ⟨("Machine", some "forget"), "forget", "Machine.forget", defArgs s_M_forget, defBody s_M_forget, defScope s_M_forget, [], []⟩
abbrev s_M_ended : Stmt := inClass (top 20) 19
def d_M_ended : He.DefD := ⟨("Machine", some "ended"), "ended", "Machine.ended", defArgs s_M_ended, defBody s_M_ended, defScope s_M_ended, [], []⟩
abbrev s_M_read : Stmt := inClass (top 20) 18
def d_M_read : He.DefD := ⟨("Machine", some "read"), "read", "Machine.read", defArgs s_M_read, defBody s_M_read, defScope s_M_read, [], []⟩
abbrev s_M_exchange : Stmt := inClass (top 20) 21
def d_M_exchange : He.DefD := ⟨("Machine", some "exchange"), "exchange", "Machine.exchange", defArgs s_M_exchange, defBody s_M_exchange, defScope s_M_exchange, [], []⟩
abbrev s_M_push : Stmt := inClass (top 20) 22
def d_M_push : He.DefD := ⟨("Machine", some "push"), "push", "Machine.push", defArgs s_M_push, defBody s_M_push, defScope s_M_push, [], []⟩
abbrev s_M_guard : Stmt := inClass (top 20) 24
def d_M_guard : He.DefD := ⟨("Machine", some "guard"), "guard", "Machine.guard", defArgs s_M_guard, defBody s_M_guard, defScope s_M_guard, [], []⟩
abbrev s_M_pop : Stmt := inClass (top 20) 23
def d_M_pop : He.DefD := ⟨("Machine", some "pop"), "pop", "Machine.pop", defArgs s_M_pop, defBody s_M_pop, defScope s_M_pop, [], []⟩
abbrev s_M_turn : Stmt := inClass (top 20) 17
def d_M_turn : He.DefD := ⟨("Machine", some "turn"), "turn", "Machine.turn", defArgs s_M_turn, defBody s_M_turn, defScope s_M_turn, [], []⟩
abbrev s_played : Stmt := top 22
def d_played : He.DefD := ⟨("played", none), "played", "played", defArgs s_played, defBody s_played, defScope s_played, [], []⟩
abbrev s_M_is_done : Stmt := inClass (top 20) 5
def d_M_is_done : He.DefD := ⟨("Machine", some "is_done"), "is_done", "Machine.is_done", defArgs s_M_is_done, defBody s_M_is_done, defScope s_M_is_done, [], []⟩
abbrev s_M_answers : Stmt := inClass (top 20) 7
def d_M_answers : He.DefD := ⟨("Machine", some "answers"), "answers", "Machine.answers", defArgs s_M_answers, defBody s_M_answers, defScope s_M_answers, [], []⟩
abbrev s_M_is_stale : Stmt := inClass (top 20) 6
def d_M_is_stale : He.DefD := ⟨("Machine", some "is_stale"), "is_stale", "Machine.is_stale", defArgs s_M_is_stale, defBody s_M_is_stale, defScope s_M_is_stale, [], []⟩
abbrev s_M_pile : Stmt := inClass (top 20) 13
def d_M_pile : He.DefD := ⟨("Machine", some "pile"), "pile", "Machine.pile", defArgs s_M_pile, defBody s_M_pile, defScope s_M_pile, [], []⟩
abbrev s_M_pile_values : Stmt := inClass (top 20) 14
def d_M_pile_values : He.DefD := ⟨("Machine", some "pile_values"), "pile_values", "Machine.pile_values", defArgs s_M_pile_values, defBody s_M_pile_values, defScope s_M_pile_values, [], []⟩
abbrev s_M_order : Stmt := inClass (top 20) 9
def d_M_order : He.DefD := ⟨("Machine", some "order"), "order", "Machine.order", defArgs s_M_order, defBody s_M_order, defScope s_M_order, [], []⟩
abbrev s_whole : Stmt := top 23
def d_whole : He.DefD := ⟨("whole", none), "whole", "whole", defArgs s_whole, defBody s_whole, defScope s_whole, [], []⟩
abbrev s_L_lower : Stmt := top 33
def d_L_lower : He.DefD := ⟨("_law_lower", none), "_law_lower", "_law_lower", defArgs s_L_lower, defBody s_L_lower, defScope s_L_lower, [], []⟩
abbrev s_M_free : Stmt := inClass (top 20) 10
def d_M_free : He.DefD := ⟨("Machine", some "free"), "free", "Machine.free", defArgs s_M_free, defBody s_M_free, defScope s_M_free, [], []⟩
abbrev s_M_top_now : Stmt := inClass (top 20) 11
def d_M_top_now : He.DefD := ⟨("Machine", some "top_now"), "top_now", "Machine.top_now", defArgs s_M_top_now, defBody s_M_top_now, defScope s_M_top_now, [], []⟩
abbrev s_law : Stmt := top 34
def d_law : He.DefD := ⟨("law", none), "law", "law", defArgs s_law, defBody s_law, defScope s_law, [], []⟩
def fn : List He.DefD := [d_L_dice, d_L_next, d_L_values, d_L_deed, d_L_programs, d_L_weaving, d_L_rule, d_L_case, d_need_values, d_is_deed, d_need_deeds, d_need_programs, d_need_rule, d_H_init, d_M_init, d_M_need_hand, d_M_rests, d_M_marks, d_M_taken, d_M_forget, d_M_ended, d_M_read, d_M_exchange, d_M_push, d_M_guard, d_M_pop, d_M_turn, d_played, d_M_is_done, d_M_answers, d_M_is_stale, d_M_pile, d_M_pile_values, d_M_order, d_whole, d_L_lower, d_M_free, d_M_top_now, d_law]
def fa : List He.Fa := [.cls "Machine", .cls "Hand", .mkr "Machine", .mkr "Hand", .noat "Machine" "rule", .noat "Machine" "worths", .noat "Machine" "links", .noat "Machine" "top", .noat "Machine" "count", .noat "Machine" "freed", .noat "Machine" "hands", .noat "Machine" "ends", .noat "Machine" "strayed", .noat "Hand" "program", .noat "Hand" "at", .noat "Hand" "cell", .noat "Hand" "seen", .noat "Hand" "follow", .noat "Hand" "mark", .noat "Hand" "looked", .noat "Hand" "said", .glo "Machine", .glo "Hand", .glo "_law_dice", .free "len", .free "int", .glo "_law_next", .glo "_law_values", .free "range", .glo "_law_deed", .glo "_law_programs", .glo "_law_weaving", .glo "_law_rule", .free "tuple", .glo "_law_case", .glo "need_values", .int "MOST_VALUES" 6, .int "MOST_VALUE" 99, .glo "is_deed", .glo "need_deeds", .glo "need_programs", .int "MOST_HANDS" 3, .int "MOST_DEEDS" 4, .glo "need_rule", .int "MOST_COUNTS" 15, .free "list", .meth "Machine" "need_hand", .meth "Machine" "rests", .meth "Machine" "marks", .meth "Machine" "taken", .meth "Machine" "forget", .meth "Machine" "ended", .meth "Machine" "read", .meth "Machine" "exchange", .meth "Machine" "push", .meth "Machine" "guard", .meth "Machine" "pop", .meth "Machine" "turn", .glo "played", .meth "Machine" "is_done", .meth "Machine" "answers", .meth "Machine" "is_stale", .meth "Machine" "pile", .meth "Machine" "pile_values", .meth "Machine" "order", .glo "whole", .glo "_law_lower", .meth "Machine" "free", .meth "Machine" "top_now", .glo "law"]
theorem sc_L_dice : FnScope ["_law_script", "_law_mixed", "_law_cell"] ["_law_script"] (defScope s_L_dice) := ⟨rfl, rfl, rfl, by decide +kernel, rfl, by decide +kernel, by decide +kernel⟩
theorem sc_L_next : FnScope ["_law_dice_here", "_law_many", "_law_found", "_law_cell"] ["_law_dice_here", "_law_many"] (defScope s_L_next) := ⟨rfl, rfl, rfl, by decide +kernel, rfl, by decide +kernel, by decide +kernel⟩
theorem sc_L_values : FnScope ["_law_d", "_law_most", "_law_k"] ["_law_d", "_law_most"] (defScope s_L_values) := ⟨rfl, rfl, rfl, by decide +kernel, rfl, by decide +kernel, by decide +kernel⟩
theorem sc_L_deed : FnScope ["_law_d"] ["_law_d"] (defScope s_L_deed) := ⟨rfl, rfl, rfl, by decide +kernel, rfl, by decide +kernel, by decide +kernel⟩
theorem sc_L_programs : FnScope ["_law_d", "_law_hands", "_law_deeds", "_law_rows", "_law_k", "_law_hand"] ["_law_d", "_law_hands", "_law_deeds"] (defScope s_L_programs) := ⟨rfl, rfl, rfl, by decide +kernel, rfl, by decide +kernel, by decide +kernel⟩
theorem sc_L_weaving : FnScope ["_law_d", "_law_many", "_law_most", "_law_weaving_here", "_law_k"] ["_law_d", "_law_many", "_law_most"] (defScope s_L_weaving) := ⟨rfl, rfl, rfl, by decide +kernel, rfl, by decide +kernel, by decide +kernel⟩
theorem sc_L_rule : FnScope ["_law_d", "_law_many", "_law_kind", "_law_hand"] ["_law_d", "_law_many"] (defScope s_L_rule) := ⟨rfl, rfl, rfl, by decide +kernel, rfl, by decide +kernel, by decide +kernel⟩
theorem sc_L_case : FnScope ["_law_d", "_law_values_here", "_law_programs_here"] ["_law_d"] (defScope s_L_case) := ⟨rfl, rfl, rfl, by decide +kernel, rfl, by decide +kernel, by decide +kernel⟩
theorem sc_need_values : FnScope ["values", "at"] ["values"] (defScope s_need_values) := ⟨rfl, rfl, rfl, by decide +kernel, rfl, by decide +kernel, by decide +kernel⟩
theorem sc_is_deed : FnScope ["deed"] ["deed"] (defScope s_is_deed) := ⟨rfl, rfl, rfl, by decide +kernel, rfl, by decide +kernel, by decide +kernel⟩
theorem sc_need_deeds : FnScope ["deeds", "hand", "number"] ["deeds", "hand"] (defScope s_need_deeds) := ⟨rfl, rfl, rfl, by decide +kernel, rfl, by decide +kernel, by decide +kernel⟩
theorem sc_need_programs : FnScope ["programs", "hand"] ["programs"] (defScope s_need_programs) := ⟨rfl, rfl, rfl, by decide +kernel, rfl, by decide +kernel, by decide +kernel⟩
theorem sc_need_rule : FnScope ["rule", "many", "at"] ["rule", "many"] (defScope s_need_rule) := ⟨rfl, rfl, rfl, by decide +kernel, rfl, by decide +kernel, by decide +kernel⟩
theorem sc_H_init : FnScope ["self", "program"] ["self", "program"] (defScope s_H_init) := ⟨rfl, rfl, rfl, by decide +kernel, rfl, by decide +kernel, by decide +kernel⟩
theorem sc_M_init : FnScope ["self", "values", "programs", "rule", "program"] ["self", "values", "programs", "rule"] (defScope s_M_init) := ⟨rfl, rfl, rfl, by decide +kernel, rfl, by decide +kernel, by decide +kernel⟩
theorem sc_M_need_hand : FnScope ["self", "hand"] ["self", "hand"] (defScope s_M_need_hand) := ⟨rfl, rfl, rfl, by decide +kernel, rfl, by decide +kernel, by decide +kernel⟩
theorem sc_M_rests : FnScope ["self", "hand"] ["self", "hand"] (defScope s_M_rests) := ⟨rfl, rfl, rfl, by decide +kernel, rfl, by decide +kernel, by decide +kernel⟩
theorem sc_M_marks : FnScope ["self", "hand"] ["self"] (defScope s_M_marks) := ⟨rfl, rfl, rfl, by decide +kernel, rfl, by decide +kernel, by decide +kernel⟩
theorem sc_M_taken : FnScope ["self", "value", "cell"] ["self", "value"] (defScope s_M_taken) := ⟨rfl, rfl, rfl, by decide +kernel, rfl, by decide +kernel, by decide +kernel⟩
theorem sc_M_forget : FnScope ["self", "hand", "one"] ["self", "hand"] (defScope s_M_forget) := ⟨rfl, rfl, rfl, by decide +kernel, rfl, by decide +kernel, by decide +kernel⟩
theorem sc_M_ended : FnScope ["self", "hand", "answer", "one"] ["self", "hand", "answer"] (defScope s_M_ended) := ⟨rfl, rfl, rfl, by decide +kernel, rfl, by decide +kernel, by decide +kernel⟩
theorem sc_M_read : FnScope ["self", "hand", "one"] ["self", "hand"] (defScope s_M_read) := ⟨rfl, rfl, rfl, by decide +kernel, rfl, by decide +kernel, by decide +kernel⟩
theorem sc_M_exchange : FnScope ["self", "hand", "cell"] ["self", "hand", "cell"] (defScope s_M_exchange) := ⟨rfl, rfl, rfl, by decide +kernel, rfl, by decide +kernel, by decide +kernel⟩
theorem sc_M_push : FnScope ["self", "hand", "one"] ["self", "hand"] (defScope s_M_push) := ⟨rfl, rfl, rfl, by decide +kernel, rfl, by decide +kernel, by decide +kernel⟩
theorem sc_M_guard : FnScope ["self", "hand", "cell", "one"] ["self", "hand", "cell"] (defScope s_M_guard) := ⟨rfl, rfl, rfl, by decide +kernel, rfl, by decide +kernel, by decide +kernel⟩
theorem sc_M_pop : FnScope ["self", "hand", "one", "cell", "follow"] ["self", "hand"] (defScope s_M_pop) := ⟨rfl, rfl, rfl, by decide +kernel, rfl, by decide +kernel, by decide +kernel⟩
theorem sc_M_turn : FnScope ["self", "hand", "one", "deed"] ["self", "hand"] (defScope s_M_turn) := ⟨rfl, rfl, rfl, by decide +kernel, rfl, by decide +kernel, by decide +kernel⟩
theorem sc_played : FnScope ["values", "programs", "rule", "weaving", "machine", "hand"] ["values", "programs", "rule", "weaving"] (defScope s_played) := ⟨rfl, rfl, rfl, by decide +kernel, rfl, by decide +kernel, by decide +kernel⟩
theorem sc_M_is_done : FnScope ["self", "hand"] ["self"] (defScope s_M_is_done) := ⟨rfl, rfl, rfl, by decide +kernel, rfl, by decide +kernel, by decide +kernel⟩
theorem sc_M_answers : FnScope ["self", "hand"] ["self", "hand"] (defScope s_M_answers) := ⟨rfl, rfl, rfl, by decide +kernel, rfl, by decide +kernel, by decide +kernel⟩
theorem sc_M_is_stale : FnScope ["self"] ["self"] (defScope s_M_is_stale) := ⟨rfl, rfl, rfl, by decide +kernel, rfl, by decide +kernel, by decide +kernel⟩
theorem sc_M_pile : FnScope ["self", "found", "cell"] ["self"] (defScope s_M_pile) := ⟨rfl, rfl, rfl, by decide +kernel, rfl, by decide +kernel, by decide +kernel⟩
theorem sc_M_pile_values : FnScope ["self", "cell"] ["self"] (defScope s_M_pile_values) := ⟨rfl, rfl, rfl, by decide +kernel, rfl, by decide +kernel, by decide +kernel⟩
theorem sc_M_order : FnScope ["self"] ["self"] (defScope s_M_order) := ⟨rfl, rfl, rfl, by decide +kernel, rfl, by decide +kernel, by decide +kernel⟩
theorem sc_whole : FnScope ["values", "programs", "rule", "weaving", "machine", "hand", "answers"] ["values", "programs", "rule", "weaving"] (defScope s_whole) := ⟨rfl, rfl, rfl, by decide +kernel, rfl, by decide +kernel, by decide +kernel⟩
theorem sc_L_lower : FnScope ["_law_step", "_law_by"] ["_law_step", "_law_by"] (defScope s_L_lower) := ⟨rfl, rfl, rfl, by decide +kernel, rfl, by decide +kernel, by decide +kernel⟩
theorem sc_M_free : FnScope ["self"] ["self"] (defScope s_M_free) := ⟨rfl, rfl, rfl, by decide +kernel, rfl, by decide +kernel, by decide +kernel⟩
theorem sc_M_top_now : FnScope ["self"] ["self"] (defScope s_M_top_now) := ⟨rfl, rfl, rfl, by decide +kernel, rfl, by decide +kernel, by decide +kernel⟩
theorem sc_law : FnScope ["_law_script", "_law_d", "_law_values_here", "_law_programs_here", "_law_rule_here", "_law_weaving_here", "_law_more", "_law_k", "_law_by", "_law_steps", "_law_step", "_law_one", "_law_two", "_law_hand", "_law_cell"] ["_law_script"] (defScope s_law) := ⟨rfl, rfl, rfl, by decide +kernel, rfl, by decide +kernel, by decide +kernel⟩
abbrev ZZ (K : PySem.W.Frag) : Cs := ⟨K, He.ga K "Hand", He.ga K "Machine"⟩
def OkF (P : Program) (w : World) (K : PySem.W.Frag) (mg : Str → Option Value) (d : He.DefD) (k : Nat) (ps : List Str) (sp : Sp) : Prop := ∃ fd, (∀ base, FnOk P w K mg base CX0 k (He.fAd K d.at_) fd ps sp) ∧ Binds K fd ps [] ∧ PySem.W.keepIn K (.ref (He.fAd K d.at_)) = true ∧ FunD K d.name d.qual d.params d.body d.scope (d.dvs K) (d.kws K) (He.fAd K d.at_) fd
section
variable {P : Program} {w : World} {K : PySem.W.Frag} {mg : Str → Option Value} {h : Heap}
theorem zok (c : He.SaysD fa fn K) : ZOk (ZZ K) := ⟨He.cls_ok (c.fact 0 (f := .cls "Machine") rfl), He.cls_ok (c.fact 1 (f := .cls "Hand") rfl), He.noat_ok (c.fact 4 (f := .noat "Machine" "rule") rfl), He.noat_ok (c.fact 5 (f := .noat "Machine" "worths") rfl), He.noat_ok (c.fact 6 (f := .noat "Machine" "links") rfl), He.noat_ok (c.fact 7 (f := .noat "Machine" "top") rfl), He.noat_ok (c.fact 8 (f := .noat "Machine" "count") rfl), He.noat_ok (c.fact 9 (f := .noat "Machine" "freed") rfl), He.noat_ok (c.fact 10 (f := .noat "Machine" "hands") rfl), He.noat_ok (c.fact 11 (f := .noat "Machine" "ends") rfl), He.noat_ok (c.fact 12 (f := .noat "Machine" "strayed") rfl), He.noat_ok (c.fact 13 (f := .noat "Hand" "program") rfl), He.noat_ok (c.fact 14 (f := .noat "Hand" "at") rfl), He.noat_ok (c.fact 15 (f := .noat "Hand" "cell") rfl), He.noat_ok (c.fact 16 (f := .noat "Hand" "seen") rfl), He.noat_ok (c.fact 17 (f := .noat "Hand" "follow") rfl), He.noat_ok (c.fact 18 (f := .noat "Hand" "mark") rfl), He.noat_ok (c.fact 19 (f := .noat "Hand" "looked") rfl), He.noat_ok (c.fact 20 (f := .noat "Hand" "said") rfl)⟩
theorem ok_L_dice (X : K.In h) (G : h.Ns mainGlobals mg) (c : He.SaysD fa fn K) : OkF P w K mg d_L_dice 1 ["_law_script"] (sp_L_dice (ZZ K)) := by
  obtain ⟨fd, F0⟩ := c.def_ 0 (d := d_L_dice) rfl
  have F : FunD K "_law_dice" "_law_dice" (defArgs s_L_dice) (defBody s_L_dice) (defScope s_L_dice) [] [] (He.fAd K ("_law_dice", none)) fd := F0
  have f_len : mg "len" = none := He.free_ok X G (c.fact 24 (f := .free "len") rfl)
  have f_int : mg "int" = none := He.free_ok X G (c.fact 25 (f := .free "int") rfl)
  refine ⟨fd, fun base => ?_, F.bindsN (fun _ _ _ _ _ _ us hl => match us, hl with | [_], _ => rfl), F0.kp, F0⟩
  refine F.ok sc_L_dice (fun vs H Q E h => len_L_dice h) (fun cdv A outer s H vs Q E hr h => ⟨t_L_dice (ZZ K), PSs.nox ?_, pure_L_dice vs H Q E h⟩)
  exact pss_cons (ps_set (i := 1) sc_L_dice.nd rfl (Or.inl rfl) pe_int)
      (pss_cons (ps_for PassesOwn.never rfl (pi_list (pv 0)) (pg_name (i := 2) sc_L_dice.nd rfl (Or.inl rfl)) (pss_one (ps_set (i := 1) sc_L_dice.nd rfl (Or.inl rfl) (pe_op op_mod (pe_op op_add (pe_op op_add (pe_op op_mul (pv 1) pe_int) (pe_op op_mul (pe_op op_mod (pv 2) pe_int) pe_int)) pe_int) pe_int))))
      (pss_one (ps_ret (pe_lst (pa_cons (pv 0) (pa_cons pe_int (pa_cons (pe_op op_mul (pv 1) (pe_callTy call_int1 rfl f_int (by decide +kernel) (pa_cons (pe_cmpR op_gt (pe_callB call_len_seq rfl f_len PySem.boot_len (pa_cons (pv 0) pa_nil)) pe_int (nomark _)) pa_nil))) (pa_cons pe_int pa_nil))))))))
theorem ok_L_next (X : K.In h) (G : h.Ns mainGlobals mg) (c : He.SaysD fa fn K) : OkF P w K mg d_L_next 1 ["_law_dice_here", "_law_many"] (sp_L_next (ZZ K)) := by
  obtain ⟨fd, F0⟩ := c.def_ 1 (d := d_L_next) rfl
  have F : FunD K "_law_next" "_law_next" (defArgs s_L_next) (defBody s_L_next) (defScope s_L_next) [] [] (He.fAd K ("_law_next", none)) fd := F0
  have f_len : mg "len" = none := He.free_ok X G (c.fact 24 (f := .free "len") rfl)
  refine ⟨fd, fun base => ?_, F.bindsN (fun _ _ _ _ _ _ us hl => match us, hl with | [_, _], _ => rfl), F0.kp, F0⟩
  refine F.ok sc_L_next (fun vs H Q E h => len_L_next h) (fun cdv A outer s H vs Q E hr h => ⟨t_L_next (ZZ K), PSs.nox ?_, pure_L_next vs H Q E h⟩)
  exact pss_cons (ps_if (pt_cmpR op_gt (pe_ix ix_list (pv 0) pe_int (fun _ _ => rfl)) pe_int (nomark _)) (pss_cons (ps_set (i := 2) sc_L_next.nd rfl (Or.inl rfl) (pe_op op_mod (pe_ix ix_list (pv 0) pe_int (fun _ _ => rfl)) (pv 1)))
      (pss_cons (ps_asg (pe_op op_fdiv (pe_ix ix_list (pv 0) pe_int (fun _ _ => rfl)) (pv 1)) (pg_sub (pv 0) pe_int set_list))
      (pss_one (ps_ret (pv 2))))) (pss_nil))
      (pss_cons (ps_asg (pe_op op_add (pe_ix ix_list (pv 0) pe_int (fun _ _ => rfl)) pe_int) (pg_sub (pv 0) pe_int set_list))
      (pss_cons (ps_if (pt_cmpR op_le (pe_ix ix_list (pv 0) pe_int (fun _ _ => rfl)) (pe_callB call_len_seq rfl f_len PySem.boot_len (pa_cons (pe_ix ix_list (pv 0) pe_int (fun _ _ => rfl)) pa_nil)) (nomark _)) (pss_cons (ps_set (i := 3) sc_L_next.nd rfl (Or.inl rfl) (pe_ix ix_list (pe_ix ix_list (pv 0) pe_int (fun _ _ => rfl)) (pe_op op_sub (pe_ix ix_list (pv 0) pe_int (fun _ _ => rfl)) pe_int) (fun _ _ => rfl)))
      (pss_cons (ps_asg (pe_ifExp (pt_cmpR op_ge (pv 3) (pe_op op_pow pe_int pe_int) (nomark _)) (pe_op op_fdiv (pv 3) (pv 1)) pe_int) (pg_sub (pv 0) pe_int set_list))
      (pss_one (ps_ret (pe_op op_mod (pv 3) (pv 1)))))) (pss_nil))
      (pss_cons (ps_asg (pe_op op_mod (pe_op op_mul (pe_ix ix_list (pv 0) pe_int (fun _ _ => rfl)) pe_int) pe_int) (pg_sub (pv 0) pe_int set_list))
      (pss_one (ps_ret (pe_op op_mod (pe_op op_fdiv (pe_ix ix_list (pv 0) pe_int (fun _ _ => rfl)) pe_int) (pv 1)))))))
theorem ok_L_values (X : K.In h) (G : h.Ns mainGlobals mg) (c : He.SaysD fa fn K) : OkF P w K mg d_L_values 2 ["_law_d", "_law_most"] (sp_L_values (ZZ K)) := by
  obtain ⟨fd, F0⟩ := c.def_ 2 (d := d_L_values) rfl
  have F : FunD K "_law_values" "_law_values" (defArgs s_L_values) (defBody s_L_values) (defScope s_L_values) [] [] (He.fAd K ("_law_values", none)) fd := F0
  obtain ⟨fd_L_next, GA_L_next, b_L_next, k_L_next, _⟩ := ok_L_next (P := P) (w := w) X G c
  have g_L_next : mg "_law_next" = some (.ref (He.ga K "_law_next")) := He.glo_ok X G (c.fact 26 (f := .glo "_law_next") rfl)
  have f_range : mg "range" = none := He.free_ok X G (c.fact 28 (f := .free "range") rfl)
  refine ⟨fd, fun base => ?_, F.bindsN (fun _ _ _ _ _ _ us hl => match us, hl with | [_, _], _ => rfl), F0.kp, F0⟩
  have G_L_next := GA_L_next base
  refine F.ok sc_L_values (fun vs H Q E h => len_L_values h) (fun cdv A outer s H vs Q E hr h => ⟨t_L_values (ZZ K), PSs.nox ?_, pure_L_values vs H Q E h⟩)
  exact pss_one (ps_ret (pe_lc (own := [("_law_k", 2)]) rfl sc_L_values.nd (pi_range1 rfl f_range (pa_cons (pe_call G_L_next (hr.mono (by decide)) rfl g_L_next k_L_next b_L_next .nil pass0 (pa_cons (pv 0) (pa_cons (pe_op op_add (pv 1) pe_int) pa_nil))) pa_nil)) (blkOk_by (own := [("_law_k", 2)]) (N := ["_law_d", "_law_most", "_law_k"]) (sc := defScope s_L_values) (by decide +kernel)) (fun _ _ _ _ _ => (pg_name (i := 2) sc_L_values.nd rfl (Or.inl rfl))) (fun _ _ _ _ _ => pts_nil) (fun _ _ _ _ _ => (pe_call G_L_next (hr.mono (by decide)) rfl g_L_next k_L_next b_L_next .nil pass0 (pa_cons (pv 0) (pa_cons pe_int pa_nil))))))
theorem ok_L_deed (X : K.In h) (G : h.Ns mainGlobals mg) (c : He.SaysD fa fn K) : OkF P w K mg d_L_deed 2 ["_law_d"] (sp_L_deed (ZZ K)) := by
  obtain ⟨fd, F0⟩ := c.def_ 3 (d := d_L_deed) rfl
  have F : FunD K "_law_deed" "_law_deed" (defArgs s_L_deed) (defBody s_L_deed) (defScope s_L_deed) [] [] (He.fAd K ("_law_deed", none)) fd := F0
  obtain ⟨fd_L_next, GA_L_next, b_L_next, k_L_next, _⟩ := ok_L_next (P := P) (w := w) X G c
  have g_L_next : mg "_law_next" = some (.ref (He.ga K "_law_next")) := He.glo_ok X G (c.fact 26 (f := .glo "_law_next") rfl)
  refine ⟨fd, fun base => ?_, F.bindsN (fun _ _ _ _ _ _ us hl => match us, hl with | [_], _ => rfl), F0.kp, F0⟩
  have G_L_next := GA_L_next base
  refine F.ok sc_L_deed (fun vs H Q E h => len_L_deed h) (fun cdv A outer s H vs Q E hr h => ⟨t_L_deed (ZZ K), PSs.nox ?_, pure_L_deed vs H Q E h⟩)
  exact pss_cons (ps_if (pt_cmpR op_eq (pe_call G_L_next (hr.mono (by decide)) rfl g_L_next k_L_next b_L_next .nil pass0 (pa_cons (pv 0) (pa_cons pe_int pa_nil))) pe_int (nomark _)) (pss_one (ps_ret (pe_tup (pa_cons pe_str (pa_cons (pe_call G_L_next (hr.mono (by decide)) rfl g_L_next k_L_next b_L_next .nil pass0 (pa_cons (pv 0) (pa_cons pe_int pa_nil))) pa_nil))))) (pss_nil))
      (pss_one (ps_ret (pe_tup (pa_cons pe_str pa_nil))))
theorem ok_L_programs (X : K.In h) (G : h.Ns mainGlobals mg) (c : He.SaysD fa fn K) : OkF P w K mg d_L_programs 3 ["_law_d", "_law_hands", "_law_deeds"] (sp_L_programs (ZZ K)) := by
  obtain ⟨fd, F0⟩ := c.def_ 4 (d := d_L_programs) rfl
  have F : FunD K "_law_programs" "_law_programs" (defArgs s_L_programs) (defBody s_L_programs) (defScope s_L_programs) [] [] (He.fAd K ("_law_programs", none)) fd := F0
  obtain ⟨fd_L_next, GA_L_next, b_L_next, k_L_next, _⟩ := ok_L_next (P := P) (w := w) X G c
  have g_L_next : mg "_law_next" = some (.ref (He.ga K "_law_next")) := He.glo_ok X G (c.fact 26 (f := .glo "_law_next") rfl)
  obtain ⟨fd_L_deed, GA_L_deed, b_L_deed, k_L_deed, _⟩ := ok_L_deed (P := P) (w := w) X G c
  have g_L_deed : mg "_law_deed" = some (.ref (He.ga K "_law_deed")) := He.glo_ok X G (c.fact 29 (f := .glo "_law_deed") rfl)
  have f_range : mg "range" = none := He.free_ok X G (c.fact 28 (f := .free "range") rfl)
  refine ⟨fd, fun base => ?_, F.bindsN (fun _ _ _ _ _ _ us hl => match us, hl with | [_, _, _], _ => rfl), F0.kp, F0⟩
  have G_L_next := GA_L_next base
  have G_L_deed := GA_L_deed base
  refine F.ok sc_L_programs (fun vs H Q E h => len_L_programs h) (fun cdv A outer s H vs Q E hr h => ⟨t_L_programs (ZZ K), PSs.nox ?_, pure_L_programs vs H Q E h⟩)
  exact pss_cons (ps_if (PW.pt (pw_and (pt_cmpR op_gt (pv 1) pe_int (nomark _)) (pw_and1 (pt_cmpR op_eq (pe_call G_L_next (hr.mono (by decide)) rfl g_L_next k_L_next b_L_next .nil pass0 (pa_cons (pv 0) (pa_cons pe_int pa_nil))) pe_int (nomark _))))) (pss_cons (ps_set (i := 3) sc_L_programs.nd rfl (Or.inl rfl) (pe_lst (pa_cons (pe_lst (pa_cons (pe_tup (pa_cons pe_str pa_nil)) pa_nil)) (pa_cons (pe_lst (pa_cons (pe_tup (pa_cons pe_str pa_nil)) (pa_cons (pe_tup (pa_cons pe_str pa_nil)) (pa_cons (pe_tup (pa_cons pe_str (pa_cons (pe_call G_L_next (hr.mono (by decide)) rfl g_L_next k_L_next b_L_next .nil pass0 (pa_cons (pv 0) (pa_cons pe_int pa_nil))) pa_nil))) pa_nil)))) pa_nil))))
      (pss_cons (ps_expr (pe_bm PySem.F.plainAttrs_list PySem.F.slot_list_insert PySem.F.type_list_insert mt_insert (pe_ix ix_list (pv 3) (pe_call G_L_next (hr.mono (by decide)) rfl g_L_next k_L_next b_L_next .nil pass0 (pa_cons (pv 0) (pa_cons pe_int pa_nil))) (fun _ _ => rfl)) (pa_cons pe_int (pa_cons (pe_call G_L_deed (hr.mono (by decide)) rfl g_L_deed k_L_deed b_L_deed .nil pass0 (pa_cons (pv 0) pa_nil)) pa_nil))))
      (pss_one (ps_ret (pe_stepL (pv 3) (pe_ix ix_list (pe_lst (pa_cons pe_int (pa_cons (pe_un un_neg pe_int) pa_nil))) (pe_call G_L_next (hr.mono (by decide)) rfl g_L_next k_L_next b_L_next .nil pass0 (pa_cons (pv 0) (pa_cons pe_int pa_nil))) (fun _ _ => rfl))))))) (pss_nil))
      (pss_one (ps_ret (pe_lc (own := [("_law_hand", 5)]) rfl sc_L_programs.nd (pi_range1 rfl f_range (pa_cons (pe_op op_add pe_int (pe_call G_L_next (hr.mono (by decide)) rfl g_L_next k_L_next b_L_next .nil pass0 (pa_cons (pv 0) (pa_cons (pv 1) pa_nil)))) pa_nil)) (blkOk_by (own := [("_law_hand", 5)]) (N := ["_law_d", "_law_hands", "_law_deeds", "_law_rows", "_law_k", "_law_hand"]) (sc := defScope s_L_programs) (by decide +kernel)) (fun _ _ _ _ _ => (pg_name (i := 5) sc_L_programs.nd rfl (Or.inl rfl))) (fun _ _ _ _ _ => pts_nil) (fun _ _ _ _ _ => (pe_lc (own := [("_law_k", 4)]) rfl sc_L_programs.nd (pi_range1 rfl f_range (pa_cons (pe_call G_L_next (hr.mono (by decide)) rfl g_L_next k_L_next b_L_next .nil pass0 (pa_cons (pv 0) (pa_cons (pe_op op_add (pv 2) pe_int) pa_nil))) pa_nil)) (blkOk_by (own := [("_law_k", 4)]) (N := ["_law_d", "_law_hands", "_law_deeds", "_law_rows", "_law_k", "_law_hand"]) (sc := relS ⟨.function, [(".0", .local), ("_law_hand", .local), ("range", .globalImplicit), ("_law_next", .globalImplicit), ("_law_d", .free), ("_law_deeds", .free)], false, false, []⟩ (defScope s_L_programs)) (by decide +kernel)) (fun _ _ _ _ _ => (pg_name (i := 4) sc_L_programs.nd rfl (Or.inl rfl))) (fun _ _ _ _ _ => pts_nil) (fun _ _ _ _ _ => (pe_call G_L_deed (hr.mono (by decide)) rfl g_L_deed k_L_deed b_L_deed .nil pass0 (pa_cons (pv 0) pa_nil))))))))
theorem ok_L_weaving (X : K.In h) (G : h.Ns mainGlobals mg) (c : He.SaysD fa fn K) : OkF P w K mg d_L_weaving 2 ["_law_d", "_law_many", "_law_most"] (sp_L_weaving (ZZ K)) := by
  obtain ⟨fd, F0⟩ := c.def_ 5 (d := d_L_weaving) rfl
  have F : FunD K "_law_weaving" "_law_weaving" (defArgs s_L_weaving) (defBody s_L_weaving) (defScope s_L_weaving) [] [] (He.fAd K ("_law_weaving", none)) fd := F0
  obtain ⟨fd_L_next, GA_L_next, b_L_next, k_L_next, _⟩ := ok_L_next (P := P) (w := w) X G c
  have g_L_next : mg "_law_next" = some (.ref (He.ga K "_law_next")) := He.glo_ok X G (c.fact 26 (f := .glo "_law_next") rfl)
  have f_range : mg "range" = none := He.free_ok X G (c.fact 28 (f := .free "range") rfl)
  refine ⟨fd, fun base => ?_, F.bindsN (fun _ _ _ _ _ _ us hl => match us, hl with | [_, _, _], _ => rfl), F0.kp, F0⟩
  have G_L_next := GA_L_next base
  refine F.ok sc_L_weaving (fun vs H Q E h => len_L_weaving h) (fun cdv A outer s H vs Q E hr h => ⟨t_L_weaving (ZZ K), PSs.nox ?_, pure_L_weaving vs H Q E h⟩)
  exact pss_cons (ps_set (i := 3) sc_L_weaving.nd rfl (Or.inl rfl) (pe_lst pa_nil))
      (pss_cons (ps_for PassesOwn.never rfl (pi_range1 rfl f_range (pa_cons (pe_call G_L_next (hr.mono (by decide)) rfl g_L_next k_L_next b_L_next .nil pass0 (pa_cons (pv 0) (pa_cons (pv 2) pa_nil))) pa_nil)) (pg_name (i := 4) sc_L_weaving.nd rfl (Or.inl rfl)) (pss_one (ps_set (i := 3) sc_L_weaving.nd rfl (Or.inl rfl) (pe_op op_cat (pv 3) (pe_op op_rep (pe_lst (pa_cons (pe_call G_L_next (hr.mono (by decide)) rfl g_L_next k_L_next b_L_next .nil pass0 (pa_cons (pv 0) (pa_cons (pv 1) pa_nil))) pa_nil)) (pe_op op_add pe_int (pe_call G_L_next (hr.mono (by decide)) rfl g_L_next k_L_next b_L_next .nil pass0 (pa_cons (pv 0) (pa_cons pe_int pa_nil)))))))))
      (pss_one (ps_ret (pv 3))))
theorem ok_L_rule (X : K.In h) (G : h.Ns mainGlobals mg) (c : He.SaysD fa fn K) : OkF P w K mg d_L_rule 2 ["_law_d", "_law_many"] (sp_L_rule (ZZ K)) := by
  obtain ⟨fd, F0⟩ := c.def_ 6 (d := d_L_rule) rfl
  have F : FunD K "_law_rule" "_law_rule" (defArgs s_L_rule) (defBody s_L_rule) (defScope s_L_rule) [] [] (He.fAd K ("_law_rule", none)) fd := F0
  obtain ⟨fd_L_next, GA_L_next, b_L_next, k_L_next, _⟩ := ok_L_next (P := P) (w := w) X G c
  have g_L_next : mg "_law_next" = some (.ref (He.ga K "_law_next")) := He.glo_ok X G (c.fact 26 (f := .glo "_law_next") rfl)
  have f_range : mg "range" = none := He.free_ok X G (c.fact 28 (f := .free "range") rfl)
  have f_tuple : mg "tuple" = none := He.free_ok X G (c.fact 33 (f := .free "tuple") rfl)
  refine ⟨fd, fun base => ?_, F.bindsN (fun _ _ _ _ _ _ us hl => match us, hl with | [_, _], _ => rfl), F0.kp, F0⟩
  have G_L_next := GA_L_next base
  refine F.ok sc_L_rule (fun vs H Q E h => len_L_rule h) (fun cdv A outer s H vs Q E hr h => ⟨t_L_rule (ZZ K), PSs.nox ?_, pure_L_rule vs H Q E h⟩)
  exact pss_cons (ps_set (i := 2) sc_L_rule.nd rfl (Or.inl rfl) (pe_call G_L_next (hr.mono (by decide)) rfl g_L_next k_L_next b_L_next .nil pass0 (pa_cons (pv 0) (pa_cons pe_int pa_nil))))
      (pss_cons (ps_if (pt_cmpR op_lt (pv 2) pe_int (nomark _)) (pss_one (ps_ret (pe_tup (pa_cons pe_str (pa_cons (pe_op op_add pe_int (pe_call G_L_next (hr.mono (by decide)) rfl g_L_next k_L_next b_L_next .nil pass0 (pa_cons (pv 0) (pa_cons (pe_ix ix_list (pe_lst (pa_cons pe_int (pa_cons pe_int pa_nil))) (pe_call G_L_next (hr.mono (by decide)) rfl g_L_next k_L_next b_L_next .nil pass0 (pa_cons (pv 0) (pa_cons pe_int pa_nil))) (fun _ _ => rfl)) pa_nil)))) pa_nil))))) (pss_nil))
      (pss_cons (ps_if (pt_cmpR op_eq (pv 2) pe_int (nomark _)) (pss_one (ps_ret (pe_tup (pa_cons pe_str (pa_cons (pe_callTy call_tuple_of rfl f_tuple (by decide +kernel) (pa_cons (pe_lc (own := [("_law_hand", 3)]) rfl sc_L_rule.nd (pi_range1 rfl f_range (pa_cons (pv 1) pa_nil)) (blkOk_by (own := [("_law_hand", 3)]) (N := ["_law_d", "_law_many", "_law_kind", "_law_hand"]) (sc := defScope s_L_rule) (by decide +kernel)) (fun _ _ _ _ _ => (pg_name (i := 3) sc_L_rule.nd rfl (Or.inl rfl))) (fun _ _ _ _ _ => pts_one (pt_cmpR op_eq (pe_call G_L_next (hr.mono (by decide)) rfl g_L_next k_L_next b_L_next .nil pass0 (pa_cons (pv 0) (pa_cons pe_int pa_nil))) pe_int (nomark _))) (fun _ _ _ _ _ => (pv 3))) pa_nil)) pa_nil))))) (pss_nil))
      (pss_one (ps_ret (pe_tup (pa_cons pe_str pa_nil))))))
theorem ok_L_case (X : K.In h) (G : h.Ns mainGlobals mg) (c : He.SaysD fa fn K) : OkF P w K mg d_L_case 4 ["_law_d"] (sp_L_case (ZZ K)) := by
  obtain ⟨fd, F0⟩ := c.def_ 7 (d := d_L_case) rfl
  have F : FunD K "_law_case" "_law_case" (defArgs s_L_case) (defBody s_L_case) (defScope s_L_case) [] [] (He.fAd K ("_law_case", none)) fd := F0
  obtain ⟨fd_L_values, GA_L_values, b_L_values, k_L_values, _⟩ := ok_L_values (P := P) (w := w) X G c
  have g_L_values : mg "_law_values" = some (.ref (He.ga K "_law_values")) := He.glo_ok X G (c.fact 27 (f := .glo "_law_values") rfl)
  obtain ⟨fd_L_programs, GA_L_programs, b_L_programs, k_L_programs, _⟩ := ok_L_programs (P := P) (w := w) X G c
  have g_L_programs : mg "_law_programs" = some (.ref (He.ga K "_law_programs")) := He.glo_ok X G (c.fact 30 (f := .glo "_law_programs") rfl)
  obtain ⟨fd_L_weaving, GA_L_weaving, b_L_weaving, k_L_weaving, _⟩ := ok_L_weaving (P := P) (w := w) X G c
  have g_L_weaving : mg "_law_weaving" = some (.ref (He.ga K "_law_weaving")) := He.glo_ok X G (c.fact 31 (f := .glo "_law_weaving") rfl)
  obtain ⟨fd_L_rule, GA_L_rule, b_L_rule, k_L_rule, _⟩ := ok_L_rule (P := P) (w := w) X G c
  have g_L_rule : mg "_law_rule" = some (.ref (He.ga K "_law_rule")) := He.glo_ok X G (c.fact 32 (f := .glo "_law_rule") rfl)
  have f_len : mg "len" = none := He.free_ok X G (c.fact 24 (f := .free "len") rfl)
  refine ⟨fd, fun base => ?_, F.bindsN (fun _ _ _ _ _ _ us hl => match us, hl with | [_], _ => rfl), F0.kp, F0⟩
  have G_L_values := GA_L_values base
  have G_L_programs := GA_L_programs base
  have G_L_weaving := GA_L_weaving base
  have G_L_rule := GA_L_rule base
  refine F.ok sc_L_case (fun vs H Q E h => len_L_case h) (fun cdv A outer s H vs Q E hr h => ⟨t_L_case (ZZ K), PSs.nox ?_, pure_L_case vs H Q E h⟩)
  exact pss_cons (ps_set (i := 1) sc_L_case.nd rfl (Or.inl rfl) (pe_call G_L_values (hr.mono (by decide)) rfl g_L_values k_L_values b_L_values .nil pass0 (pa_cons (pv 0) (pa_cons pe_int pa_nil))))
      (pss_cons (ps_set (i := 2) sc_L_case.nd rfl (Or.inl rfl) (pe_call G_L_programs (hr.mono (by decide)) rfl g_L_programs k_L_programs b_L_programs .nil pass0 (pa_cons (pv 0) (pa_cons pe_int (pa_cons pe_int pa_nil)))))
      (pss_one (ps_ret (pe_tup (pa_cons (pv 1) (pa_cons (pv 2) (pa_cons (pe_call G_L_rule (hr.mono (by decide)) rfl g_L_rule k_L_rule b_L_rule .nil pass0 (pa_cons (pv 0) (pa_cons (pe_callB call_len_seq rfl f_len PySem.boot_len (pa_cons (pv 2) pa_nil)) pa_nil))) (pa_cons (pe_slice sl_list (pe_call G_L_weaving (hr.mono (by decide)) rfl g_L_weaving k_L_weaving b_L_weaving .nil pass0 (pa_cons (pv 0) (pa_cons (pe_callB call_len_seq rfl f_len PySem.boot_len (pa_cons (pv 2) pa_nil)) (pa_cons pe_int pa_nil)))) po_none (po_some pe_int)) pa_nil))))))))
theorem ok_need_values (X : K.In h) (G : h.Ns mainGlobals mg) (c : He.SaysD fa fn K) : OkF P w K mg d_need_values 1 ["values"] (sp_need_values (ZZ K)) := by
  obtain ⟨fd, F0⟩ := c.def_ 8 (d := d_need_values) rfl
  have F : FunD K "need_values" "need_values" (defArgs s_need_values) (defBody s_need_values) (defScope s_need_values) [] [] (He.fAd K ("need_values", none)) fd := F0
  have f_len : mg "len" = none := He.free_ok X G (c.fact 24 (f := .free "len") rfl)
  have f_range : mg "range" = none := He.free_ok X G (c.fact 28 (f := .free "range") rfl)
  have gi_MOST_VALUES : ∃ t, mg "MOST_VALUES" = some (.int 6 t) := He.int_ok X G (c.fact 36 (f := .int "MOST_VALUES" 6) rfl)
  have gi_MOST_VALUE : ∃ t, mg "MOST_VALUE" = some (.int 99 t) := He.int_ok X G (c.fact 37 (f := .int "MOST_VALUE" 99) rfl)
  refine ⟨fd, fun base => ?_, F.bindsN (fun _ _ _ _ _ _ us hl => match us, hl with | [_], _ => rfl), F0.kp, F0⟩
  refine F.ok sc_need_values (fun vs H Q E h => len_need_values h) (fun cdv A outer s H vs Q E hr h => ⟨t_need_values (ZZ K), PSs.nox ?_, pure_need_values (zok c) vs H Q E h⟩)
  exact pss_cons (ps_if (pt_cmpR op_gt (pe_callB call_len_seq rfl f_len PySem.boot_len (pa_cons (pv 0) pa_nil)) (pe_glob rfl gi_MOST_VALUES.choose_spec ⟨_, rfl⟩) (nomark _)) (pss_one (ps_never)) (pss_nil))
      (pss_one (ps_for PassesOwn.never rfl (pi_range1 rfl f_range (pa_cons (pe_callB call_len_seq rfl f_len PySem.boot_len (pa_cons (pv 0) pa_nil)) pa_nil)) (pg_name (i := 1) sc_need_values.nd rfl (Or.inl rfl)) (pss_one (ps_if (pt_not (pt_chain op_le op_le pe_int (pe_ix ix_list (pv 0) (pv 1) (fun _ _ => rfl)) (pe_glob rfl gi_MOST_VALUE.choose_spec ⟨_, rfl⟩))) (pss_one (ps_never)) (pss_nil)))))
theorem ok_is_deed (X : K.In h) (G : h.Ns mainGlobals mg) (c : He.SaysD fa fn K) : OkF P w K mg d_is_deed 1 ["deed"] (sp_is_deed (ZZ K)) := by
  obtain ⟨fd, F0⟩ := c.def_ 9 (d := d_is_deed) rfl
  have F : FunD K "is_deed" "is_deed" (defArgs s_is_deed) (defBody s_is_deed) (defScope s_is_deed) [] [] (He.fAd K ("is_deed", none)) fd := F0
  have f_len : mg "len" = none := He.free_ok X G (c.fact 24 (f := .free "len") rfl)
  have gi_MOST_VALUE : ∃ t, mg "MOST_VALUE" = some (.int 99 t) := He.int_ok X G (c.fact 37 (f := .int "MOST_VALUE" 99) rfl)
  refine ⟨fd, fun base => ?_, F.bindsN (fun _ _ _ _ _ _ us hl => match us, hl with | [_], _ => rfl), F0.kp, F0⟩
  refine F.ok sc_is_deed (fun vs H Q E h => len_is_deed h) (fun cdv A outer s H vs Q E hr h => ⟨t_is_deed (ZZ K), PSs.nox ?_, pure_is_deed (zok c) vs H Q E h⟩)
  exact pss_cons (ps_if (pt_cmpR op_eq (pe_callB call_len_seq rfl f_len PySem.boot_len (pa_cons (pv 0) pa_nil)) pe_int (nomark _)) (pss_one (ps_ret pe_bl)) (pss_nil))
      (pss_cons (ps_if (pt_cmpR op_eq (pe_ix ix_tup (pv 0) pe_int (fun _ _ => rfl)) pe_str (nomark _)) (pss_one (ps_ret (pe_cmpR op_eq (pe_callB call_len_seq rfl f_len PySem.boot_len (pa_cons (pv 0) pa_nil)) pe_int (nomark _)))) (pss_nil))
      (pss_one (ps_ret (pe_and (pe_cmpR op_eq (pe_ix ix_tup (pv 0) pe_int (fun _ _ => rfl)) pe_str (nomark _)) (pe_and (pe_cmpR op_eq (pe_callB call_len_seq rfl f_len PySem.boot_len (pa_cons (pv 0) pa_nil)) pe_int (nomark _)) (pe_one (pe_chain op_le op_le pe_int (pe_ix ix_tup (pv 0) pe_int (fun _ _ => rfl)) (pe_glob rfl gi_MOST_VALUE.choose_spec ⟨_, rfl⟩))))))))
theorem ok_need_deeds (X : K.In h) (G : h.Ns mainGlobals mg) (c : He.SaysD fa fn K) : OkF P w K mg d_need_deeds 2 ["deeds", "hand"] (sp_need_deeds (ZZ K)) := by
  obtain ⟨fd, F0⟩ := c.def_ 10 (d := d_need_deeds) rfl
  have F : FunD K "need_deeds" "need_deeds" (defArgs s_need_deeds) (defBody s_need_deeds) (defScope s_need_deeds) [] [] (He.fAd K ("need_deeds", none)) fd := F0
  obtain ⟨fd_is_deed, GA_is_deed, b_is_deed, k_is_deed, _⟩ := ok_is_deed (P := P) (w := w) X G c
  have g_is_deed : mg "is_deed" = some (.ref (He.ga K "is_deed")) := He.glo_ok X G (c.fact 38 (f := .glo "is_deed") rfl)
  have f_len : mg "len" = none := He.free_ok X G (c.fact 24 (f := .free "len") rfl)
  have f_range : mg "range" = none := He.free_ok X G (c.fact 28 (f := .free "range") rfl)
  refine ⟨fd, fun base => ?_, F.bindsN (fun _ _ _ _ _ _ us hl => match us, hl with | [_, _], _ => rfl), F0.kp, F0⟩
  have G_is_deed := GA_is_deed base
  refine F.ok sc_need_deeds (fun vs H Q E h => len_need_deeds h) (fun cdv A outer s H vs Q E hr h => ⟨t_need_deeds (ZZ K), PSs.nox ?_, pure_need_deeds (zok c) vs H Q E h⟩)
  exact pss_one (ps_for PassesOwn.never rfl (pi_range1 rfl f_range (pa_cons (pe_callB call_len_seq rfl f_len PySem.boot_len (pa_cons (pv 0) pa_nil)) pa_nil)) (pg_name (i := 2) sc_need_deeds.nd rfl (Or.inl rfl)) (pss_one (ps_if (pt_not (pt_val (pe_call G_is_deed (hr.mono (by decide)) rfl g_is_deed k_is_deed b_is_deed .nil pass0 (pa_cons (pe_ix ix_list (pv 0) (pv 2) (fun _ _ => rfl)) pa_nil)))) (pss_one (ps_never)) (pss_nil))))
theorem ok_need_programs (X : K.In h) (G : h.Ns mainGlobals mg) (c : He.SaysD fa fn K) : OkF P w K mg d_need_programs 3 ["programs"] (sp_need_programs (ZZ K)) := by
  obtain ⟨fd, F0⟩ := c.def_ 11 (d := d_need_programs) rfl
  have F : FunD K "need_programs" "need_programs" (defArgs s_need_programs) (defBody s_need_programs) (defScope s_need_programs) [] [] (He.fAd K ("need_programs", none)) fd := F0
  obtain ⟨fd_need_deeds, GA_need_deeds, b_need_deeds, k_need_deeds, _⟩ := ok_need_deeds (P := P) (w := w) X G c
  have g_need_deeds : mg "need_deeds" = some (.ref (He.ga K "need_deeds")) := He.glo_ok X G (c.fact 39 (f := .glo "need_deeds") rfl)
  have f_len : mg "len" = none := He.free_ok X G (c.fact 24 (f := .free "len") rfl)
  have f_range : mg "range" = none := He.free_ok X G (c.fact 28 (f := .free "range") rfl)
  have gi_MOST_HANDS : ∃ t, mg "MOST_HANDS" = some (.int 3 t) := He.int_ok X G (c.fact 41 (f := .int "MOST_HANDS" 3) rfl)
  have gi_MOST_DEEDS : ∃ t, mg "MOST_DEEDS" = some (.int 4 t) := He.int_ok X G (c.fact 42 (f := .int "MOST_DEEDS" 4) rfl)
  refine ⟨fd, fun base => ?_, F.bindsN (fun _ _ _ _ _ _ us hl => match us, hl with | [_], _ => rfl), F0.kp, F0⟩
  have G_need_deeds := GA_need_deeds base
  refine F.ok sc_need_programs (fun vs H Q E h => len_need_programs h) (fun cdv A outer s H vs Q E hr h => ⟨t_need_programs (ZZ K), PSs.nox ?_, pure_need_programs (zok c) vs H Q E h⟩)
  exact pss_cons (ps_if (pt_not (pt_chain op_le op_le pe_int (pe_callB call_len_seq rfl f_len PySem.boot_len (pa_cons (pv 0) pa_nil)) (pe_glob rfl gi_MOST_HANDS.choose_spec ⟨_, rfl⟩))) (pss_one (ps_never)) (pss_nil))
      (pss_one (ps_for PassesOwn.never rfl (pi_range1 rfl f_range (pa_cons (pe_callB call_len_seq rfl f_len PySem.boot_len (pa_cons (pv 0) pa_nil)) pa_nil)) (pg_name (i := 1) sc_need_programs.nd rfl (Or.inl rfl)) (pss_cons (ps_if (pt_cmpR op_gt (pe_callB call_len_seq rfl f_len PySem.boot_len (pa_cons (pe_ix ix_list (pv 0) (pv 1) (fun _ _ => rfl)) pa_nil)) (pe_glob rfl gi_MOST_DEEDS.choose_spec ⟨_, rfl⟩) (nomark _)) (pss_one (ps_never)) (pss_nil))
      (pss_one (ps_expr (pe_call G_need_deeds (hr.mono (by decide)) rfl g_need_deeds k_need_deeds b_need_deeds .nil pass0 (pa_cons (pe_ix ix_list (pv 0) (pv 1) (fun _ _ => rfl)) (pa_cons (pv 1) pa_nil))))))))
theorem ok_need_rule (X : K.In h) (G : h.Ns mainGlobals mg) (c : He.SaysD fa fn K) : OkF P w K mg d_need_rule 1 ["rule", "many"] (sp_need_rule (ZZ K)) := by
  obtain ⟨fd, F0⟩ := c.def_ 12 (d := d_need_rule) rfl
  have F : FunD K "need_rule" "need_rule" (defArgs s_need_rule) (defBody s_need_rule) (defScope s_need_rule) [] [] (He.fAd K ("need_rule", none)) fd := F0
  have f_len : mg "len" = none := He.free_ok X G (c.fact 24 (f := .free "len") rfl)
  have f_range : mg "range" = none := He.free_ok X G (c.fact 28 (f := .free "range") rfl)
  have gi_MOST_COUNTS : ∃ t, mg "MOST_COUNTS" = some (.int 15 t) := He.int_ok X G (c.fact 44 (f := .int "MOST_COUNTS" 15) rfl)
  refine ⟨fd, fun base => ?_, F.bindsN (fun _ _ _ _ _ _ us hl => match us, hl with | [_, _], _ => rfl), F0.kp, F0⟩
  refine F.ok sc_need_rule (fun vs H Q E h => len_need_rule h) (fun cdv A outer s H vs Q E hr h => ⟨t_need_rule (ZZ K), PSs.nox ?_, pure_need_rule (zok c) vs H Q E h⟩)
  exact pss_cons (ps_if (pt_cmpR (op_eqD hr.units) (pv 0) (pe_tup (pa_cons pe_str pa_nil)) (nomark _)) (pss_one (ps_retN)) (pss_nil))
      (pss_cons (ps_if (PW.pt (pw_or (pt_cmpR op_ne (pe_callB call_len_seq rfl f_len PySem.boot_len (pa_cons (pv 0) pa_nil)) pe_int (nomark _)) (pw_or1 (pt_cmpR op_notIn_seq (pe_ix ix_tup (pv 0) pe_int (fun _ _ => rfl)) (pe_tup (pa_cons pe_str (pa_cons pe_str pa_nil))) (by rfl))))) (pss_one (ps_never)) (pss_nil))
      (pss_one (ps_if (pt_cmpR op_eq (pe_ix ix_tup (pv 0) pe_int (fun _ _ => rfl)) pe_str (nomark _)) (pss_one (ps_if (pt_not (pt_chain op_le op_le pe_int (pe_ix ix_tup (pv 0) pe_int (fun _ _ => rfl)) (pe_glob rfl gi_MOST_COUNTS.choose_spec ⟨_, rfl⟩))) (pss_one (ps_never)) (pss_nil))) (pss_one (ps_for PassesOwn.never rfl (pi_range1 rfl f_range (pa_cons (pe_callB call_len_seq rfl f_len PySem.boot_len (pa_cons (pe_ix ix_tup (pv 0) pe_int (fun _ _ => rfl)) pa_nil)) pa_nil)) (pg_name (i := 2) sc_need_rule.nd rfl (Or.inl rfl)) (pss_one (ps_if (PW.pt (pw_or (pt_not (pt_chain op_le op_lt pe_int (pe_ix ix_tup (pe_ix ix_tup (pv 0) pe_int (fun _ _ => rfl)) (pv 2) (fun _ _ => rfl)) (pv 1))) (pw_or1 (PW.pt (pw_and (pt_cmpR op_gt (pv 2) pe_int (nomark _)) (pw_and1 (pt_cmpR op_le (pe_ix ix_tup (pe_ix ix_tup (pv 0) pe_int (fun _ _ => rfl)) (pv 2) (fun _ _ => rfl)) (pe_ix ix_tup (pe_ix ix_tup (pv 0) pe_int (fun _ _ => rfl)) (pe_op op_sub (pv 2) pe_int) (fun _ _ => rfl)) (nomark _)))))))) (pss_one (ps_never)) (pss_nil))))))))
theorem ok_H_init (X : K.In h) (G : h.Ns mainGlobals mg) (c : He.SaysD fa fn K) : OkF P w K mg d_H_init 1 ["self", "program"] (sp_H_init (ZZ K)) := by
  obtain ⟨fd, F0⟩ := c.def_ 13 (d := d_H_init) rfl
  have F : FunD K "__init__" "Hand.__init__" (defArgs s_H_init) (defBody s_H_init) (defScope s_H_init) [] [] (He.fAd K ("Hand", some "__init__")) fd := F0
  have f_list : mg "list" = none := He.free_ok X G (c.fact 45 (f := .free "list") rfl)
  refine ⟨fd, fun base => ?_, F.bindsN (fun _ _ _ _ _ _ us hl => match us, hl with | [_, _], _ => rfl), F0.kp, F0⟩
  refine F.ok sc_H_init (fun vs H Q E h => len_H_init h) (fun cdv A outer s H vs Q E hr h => ⟨t_H_init (ZZ K), PSs.nox ?_, pure_H_init (zok c) vs H Q E h⟩)
  exact pss_cons (ps_fld (pv 0) (pe_callTy call_list_of rfl f_list (by decide +kernel) (pa_cons (pv 1) pa_nil)) rfl)
      (pss_cons (ps_fld (pv 0) pe_int rfl)
      (pss_cons (ps_fld (pv 0) pe_int rfl)
      (pss_cons (ps_fld (pv 0) pe_non rfl)
      (pss_cons (ps_fld (pv 0) pe_non rfl)
      (pss_cons (ps_fld (pv 0) pe_int rfl)
      (pss_cons (ps_fld (pv 0) pe_bl rfl)
      (pss_one (ps_fld (pv 0) (pe_lst pa_nil) rfl))))))))
theorem ok_M_init (X : K.In h) (G : h.Ns mainGlobals mg) (c : He.SaysD fa fn K) : OkF P w K mg d_M_init 4 ["self", "values", "programs", "rule"] (sp_M_init (ZZ K)) := by
  obtain ⟨fd, F0⟩ := c.def_ 14 (d := d_M_init) rfl
  have F : FunD K "__init__" "Machine.__init__" (defArgs s_M_init) (defBody s_M_init) (defScope s_M_init) [] [] (He.fAd K ("Machine", some "__init__")) fd := F0
  obtain ⟨fd_need_values, GA_need_values, b_need_values, k_need_values, _⟩ := ok_need_values (P := P) (w := w) X G c
  have g_need_values : mg "need_values" = some (.ref (He.ga K "need_values")) := He.glo_ok X G (c.fact 35 (f := .glo "need_values") rfl)
  obtain ⟨fd_need_programs, GA_need_programs, b_need_programs, k_need_programs, _⟩ := ok_need_programs (P := P) (w := w) X G c
  have g_need_programs : mg "need_programs" = some (.ref (He.ga K "need_programs")) := He.glo_ok X G (c.fact 40 (f := .glo "need_programs") rfl)
  obtain ⟨fd_need_rule, GA_need_rule, b_need_rule, k_need_rule, _⟩ := ok_need_rule (P := P) (w := w) X G c
  have g_need_rule : mg "need_rule" = some (.ref (He.ga K "need_rule")) := He.glo_ok X G (c.fact 43 (f := .glo "need_rule") rfl)
  obtain ⟨fd_H_init, GA_H_init, b_H_init, k_H_init, _⟩ := ok_H_init (P := P) (w := w) X G c
  have f_len : mg "len" = none := He.free_ok X G (c.fact 24 (f := .free "len") rfl)
  have f_list : mg "list" = none := He.free_ok X G (c.fact 45 (f := .free "list") rfl)
  have f_range : mg "range" = none := He.free_ok X G (c.fact 28 (f := .free "range") rfl)
  have mk_H : Mk K (He.ga K "Hand") (He.ma K (He.ga K "Hand") "__init__") := He.mkr_ok (c.fact 3 (f := .mkr "Hand") rfl)
  have g_Hand : mg "Hand" = some (.ref (He.ga K "Hand")) := He.glo_ok X G (c.fact 22 (f := .glo "Hand") rfl)
  refine ⟨fd, fun base => ?_, F.bindsN (fun _ _ _ _ _ _ us hl => match us, hl with | [_, _, _, _], _ => rfl), F0.kp, F0⟩
  have G_need_values := GA_need_values base
  have G_need_programs := GA_need_programs base
  have G_need_rule := GA_need_rule base
  have G_H_init := GA_H_init base
  refine F.ok sc_M_init (fun vs H Q E h => len_M_init h) (fun cdv A outer s H vs Q E hr h => ⟨t_M_init (ZZ K), PSs.nox ?_, pure_M_init (zok c) vs H Q E h⟩)
  exact pss_cons (ps_expr (pe_call G_need_values (hr.mono (by decide)) rfl g_need_values k_need_values b_need_values .nil pass0 (pa_cons (pv 1) pa_nil)))
      (pss_cons (ps_expr (pe_call G_need_programs (hr.mono (by decide)) rfl g_need_programs k_need_programs b_need_programs .nil pass0 (pa_cons (pv 2) pa_nil)))
      (pss_cons (ps_expr (pe_call G_need_rule (hr.mono (by decide)) rfl g_need_rule k_need_rule b_need_rule .nil pass0 (pa_cons (pv 3) (pa_cons (pe_callB call_len_seq rfl f_len PySem.boot_len (pa_cons (pv 2) pa_nil)) pa_nil))))
      (pss_cons (ps_fld (pv 0) (pv 3) rfl)
      (pss_cons (ps_fld (pv 0) (pe_callTy call_list_of rfl f_list (by decide +kernel) (pa_cons (pv 1) pa_nil)) rfl)
      (pss_cons (ps_fld (pv 0) (pe_listRg rfl rfl f_list (prg_1 rfl f_range (pe_callB call_len_seq rfl f_len PySem.boot_len (pa_cons (pv 1) pa_nil)))) rfl)
      (pss_cons (ps_fld (pv 0) (pe_callB call_len_seq rfl f_len PySem.boot_len (pa_cons (pv 1) pa_nil)) rfl)
      (pss_cons (ps_fld (pv 0) pe_int rfl)
      (pss_cons (ps_fld (pv 0) (pe_lst pa_nil) rfl)
      (pss_cons (ps_fld (pv 0) (pe_lc (own := [("program", 4)]) rfl sc_M_init.nd (pi_list (pv 2)) (blkOk_by (own := [("program", 4)]) (N := ["self", "values", "programs", "rule", "program"]) (sc := defScope s_M_init) (by decide +kernel)) (fun _ _ _ _ _ => (pg_name (i := 4) sc_M_init.nd rfl (Or.inl rfl))) (fun _ _ _ _ _ => pts_nil) (fun _ _ _ _ _ => (pe_make mk_H G_H_init (hr.mono (by decide)) rfl g_Hand b_H_init .nil pass0 (pa_cons (pv 4) pa_nil)))) rfl)
      (pss_cons (ps_fld (pv 0) (pe_lst pa_nil) rfl)
      (pss_one (ps_fld (pv 0) pe_bl rfl))))))))))))
theorem ok_M_need_hand (X : K.In h) (G : h.Ns mainGlobals mg) (c : He.SaysD fa fn K) : OkF P w K mg d_M_need_hand 1 ["self", "hand"] (sp_M_need_hand (ZZ K)) := by
  obtain ⟨fd, F0⟩ := c.def_ 15 (d := d_M_need_hand) rfl
  have F : FunD K "need_hand" "Machine.need_hand" (defArgs s_M_need_hand) (defBody s_M_need_hand) (defScope s_M_need_hand) [] [] (He.fAd K ("Machine", some "need_hand")) fd := F0
  have f_len : mg "len" = none := He.free_ok X G (c.fact 24 (f := .free "len") rfl)
  refine ⟨fd, fun base => ?_, F.bindsN (fun _ _ _ _ _ _ us hl => match us, hl with | [_, _], _ => rfl), F0.kp, F0⟩
  refine F.ok sc_M_need_hand (fun vs H Q E h => len_M_need_hand h) (fun cdv A outer s H vs Q E hr h => ⟨t_M_need_hand (ZZ K), PSs.nox ?_, pure_M_need_hand (zok c) vs H Q E h⟩)
  exact pss_cons (ps_if (pt_not (pt_chain op_le op_lt pe_int (pv 1) (pe_callB call_len_seq rfl f_len PySem.boot_len (pa_cons (pe_fld (pv 0) rfl) pa_nil)))) (pss_one (ps_never)) (pss_nil))
      (pss_one (ps_ret (pe_ix ix_list (pe_fld (pv 0) rfl) (pv 1) (fun _ _ => rfl))))
theorem ok_M_rests (X : K.In h) (G : h.Ns mainGlobals mg) (c : He.SaysD fa fn K) : OkF P w K mg d_M_rests 1 ["self", "hand"] (sp_M_rests (ZZ K)) := by
  obtain ⟨fd, F0⟩ := c.def_ 16 (d := d_M_rests) rfl
  have F : FunD K "rests" "Machine.rests" (defArgs s_M_rests) (defBody s_M_rests) (defScope s_M_rests) [] [] (He.fAd K ("Machine", some "rests")) fd := F0
  have f_len : mg "len" = none := He.free_ok X G (c.fact 24 (f := .free "len") rfl)
  refine ⟨fd, fun base => ?_, F.bindsN (fun _ _ _ _ _ _ us hl => match us, hl with | [_, _], _ => rfl), F0.kp, F0⟩
  refine F.ok sc_M_rests (fun vs H Q E h => len_M_rests h) (fun cdv A outer s H vs Q E hr h => ⟨t_M_rests (ZZ K), PSs.nox ?_, pure_M_rests (zok c) vs H Q E h⟩)
  exact pss_one (ps_ret (pe_cmpR op_eq (pe_fld (pe_ix ix_list (pe_fld (pv 0) rfl) (pv 1) (fun _ _ => rfl)) rfl) (pe_callB call_len_seq rfl f_len PySem.boot_len (pa_cons (pe_fld (pe_ix ix_list (pe_fld (pv 0) rfl) (pv 1) (fun _ _ => rfl)) rfl) pa_nil)) (nomark _)))
theorem ok_M_marks (X : K.In h) (G : h.Ns mainGlobals mg) (c : He.SaysD fa fn K) : OkF P w K mg d_M_marks 1 ["self"] (sp_M_marks (ZZ K)) := by
  obtain ⟨fd, F0⟩ := c.def_ 17 (d := d_M_marks) rfl
  have F : FunD K "marks" "Machine.marks" (defArgs s_M_marks) (defBody s_M_marks) (defScope s_M_marks) [] [] (He.fAd K ("Machine", some "marks")) fd := F0
  refine ⟨fd, fun base => ?_, F.bindsN (fun _ _ _ _ _ _ us hl => match us, hl with | [_], _ => rfl), F0.kp, F0⟩
  refine F.ok sc_M_marks (fun vs H Q E h => len_M_marks h) (fun cdv A outer s H vs Q E hr h => ⟨t_M_marks (ZZ K), PSs.nox ?_, pure_M_marks (zok c) vs H Q E h⟩)
  exact pss_one (ps_ret (pe_lc (own := [("hand", 1)]) rfl sc_M_marks.nd (pi_list (pe_fld (pv 0) rfl)) (blkOk_by (own := [("hand", 1)]) (N := ["self", "hand"]) (sc := defScope s_M_marks) (by decide +kernel)) (fun _ _ _ _ _ => (pg_name (i := 1) sc_M_marks.nd rfl (Or.inl rfl))) (fun _ _ _ _ _ => pts_one (pt_cmpR op_ne (pe_fld (pv 1) rfl) pe_int (nomark _))) (fun _ _ _ _ _ => (pe_fld (pv 1) rfl))))
theorem ok_M_taken (X : K.In h) (G : h.Ns mainGlobals mg) (c : He.SaysD fa fn K) : OkF P w K mg d_M_taken 2 ["self", "value"] (sp_M_taken (ZZ K)) := by
  obtain ⟨fd, F0⟩ := c.def_ 18 (d := d_M_taken) rfl
  have F : FunD K "taken" "Machine.taken" (defArgs s_M_taken) (defBody s_M_taken) (defScope s_M_taken) [] [] (He.fAd K ("Machine", some "taken")) fd := F0
  obtain ⟨fd_M_marks, GA_M_marks, b_M_marks, k_M_marks, _⟩ := ok_M_marks (P := P) (w := w) X G c
  have m_M_marks : Meth K (He.ga K "Machine") "marks" (He.ma K (He.ga K "Machine") "marks") := He.meth_ok (c.fact 48 (f := .meth "Machine" "marks") rfl)
  have f_list : mg "list" = none := He.free_ok X G (c.fact 45 (f := .free "list") rfl)
  have f_len : mg "len" = none := He.free_ok X G (c.fact 24 (f := .free "len") rfl)
  have cl_M : Cls K (He.ga K "Machine") := He.cls_ok (c.fact 0 (f := .cls "Machine") rfl)
  refine ⟨fd, fun base => ?_, F.bindsN (fun _ _ _ _ _ _ us hl => match us, hl with | [_, _], _ => rfl), F0.kp, F0⟩
  have G_M_marks := GA_M_marks base
  refine F.ok sc_M_taken (fun vs H Q E h => len_M_taken h) (fun cdv A outer s H vs Q E hr h => ⟨t_M_taken (ZZ K), PSs.nox ?_, pure_M_taken (zok c) vs H Q E h⟩)
  exact pss_cons (ps_for PassesOwn.never rfl (pi_list (pe_callTy call_list_of rfl f_list (by decide +kernel) (pa_cons (pe_fld (pv 0) rfl) pa_nil))) (pg_name (i := 2) sc_M_taken.nd rfl (Or.inl rfl)) (pss_one (ps_if (PW.pt (pw_and (pt_cmpR op_ne (pe_ix ix_tup (pe_fld (pv 0) rfl) pe_int (fun _ _ => rfl)) pe_str (nomark _)) (pw_and1 (pt_cmpR op_notIn_seq (pv 2) (pe_meth0 (pv 0) cl_M m_M_marks G_M_marks (hr.mono (by decide)) b_M_marks .nil pass0) (by rfl))))) (pss_cons (ps_expr (pe_bm PySem.F.plainAttrs_list PySem.F.slot_list_remove PySem.F.type_list_remove mt_remove (pe_fld (pv 0) rfl) (pa_cons (pv 2) pa_nil)))
      (pss_cons (ps_asg (pv 1) (pg_sub (pe_fld (pv 0) rfl) (pe_op op_sub (pv 2) pe_int) set_list))
      (pss_one (ps_ret (pv 2))))) (pss_nil))))
      (pss_cons (ps_expr (pe_bm PySem.F.plainAttrs_list PySem.F.slot_list_append PySem.F.type_list_append mt_append (pe_fld (pv 0) rfl) (pa_cons (pv 1) pa_nil)))
      (pss_cons (ps_expr (pe_bm PySem.F.plainAttrs_list PySem.F.slot_list_append PySem.F.type_list_append mt_append (pe_fld (pv 0) rfl) (pa_cons pe_int pa_nil)))
      (pss_one (ps_ret (pe_callB call_len_seq rfl f_len PySem.boot_len (pa_cons (pe_fld (pv 0) rfl) pa_nil))))))
theorem ok_M_forget (X : K.In h) (G : h.Ns mainGlobals mg) (c : He.SaysD fa fn K) : OkF P w K mg d_M_forget 1 ["self", "hand"] (sp_M_forget (ZZ K)) := by
  obtain ⟨fd, F0⟩ := c.def_ 19 (d := d_M_forget) rfl
  have F : FunD K "forget" "Machine.forget" (defArgs s_M_forget) (defBody s_M_forget) (defScope s_M_forget) [] [] (He.fAd K ("Machine", some "forget")) fd := F0
  refine ⟨fd, fun base => ?_, F.bindsN (fun _ _ _ _ _ _ us hl => match us, hl with | [_, _], _ => rfl), F0.kp, F0⟩
  refine F.ok sc_M_forget (fun vs H Q E h => len_M_forget h) (fun cdv A outer s H vs Q E hr h => ⟨t_M_forget (ZZ K), PSs.nox ?_, pure_M_forget (zok c) vs H Q E h⟩)
  exact pss_cons (ps_set (i := 2) sc_M_forget.nd rfl (Or.inl rfl) (pe_ix ix_list (pe_fld (pv 0) rfl) (pv 1) (fun _ _ => rfl)))
      (pss_cons (ps_fld (pv 2) pe_non rfl)
      (pss_cons (ps_fld (pv 2) pe_non rfl)
      (pss_one (ps_fld (pv 2) pe_bl rfl))))
theorem ok_M_ended (X : K.In h) (G : h.Ns mainGlobals mg) (c : He.SaysD fa fn K) : OkF P w K mg d_M_ended 2 ["self", "hand", "answer"] (sp_M_ended (ZZ K)) := by
  obtain ⟨fd, F0⟩ := c.def_ 20 (d := d_M_ended) rfl
  have F : FunD K "ended" "Machine.ended" (defArgs s_M_ended) (defBody s_M_ended) (defScope s_M_ended) [] [] (He.fAd K ("Machine", some "ended")) fd := F0
  obtain ⟨fd_M_forget, GA_M_forget, b_M_forget, k_M_forget, _⟩ := ok_M_forget (P := P) (w := w) X G c
  have m_M_forget : Meth K (He.ga K "Machine") "forget" (He.ma K (He.ga K "Machine") "forget") := He.meth_ok (c.fact 50 (f := .meth "Machine" "forget") rfl)
  have cl_M : Cls K (He.ga K "Machine") := He.cls_ok (c.fact 0 (f := .cls "Machine") rfl)
  refine ⟨fd, fun base => ?_, F.bindsN (fun _ _ _ _ _ _ us hl => match us, hl with | [_, _, _], _ => rfl), F0.kp, F0⟩
  have G_M_forget := GA_M_forget base
  refine F.ok sc_M_ended (fun vs H Q E h => len_M_ended h) (fun cdv A outer s H vs Q E hr h => ⟨t_M_ended (ZZ K), PSs.nox ?_, pure_M_ended (zok c) vs H Q E h⟩)
  exact pss_cons (ps_set (i := 3) sc_M_ended.nd rfl (Or.inl rfl) (pe_ix ix_list (pe_fld (pv 0) rfl) (pv 1) (fun _ _ => rfl)))
      (pss_cons (ps_expr (pe_bm PySem.F.plainAttrs_list PySem.F.slot_list_append PySem.F.type_list_append mt_append (pe_fld (pv 3) rfl) (pa_cons (pv 2) pa_nil)))
      (pss_cons (ps_fld (pv 3) (pe_op op_add (pe_fld (pv 3) rfl) pe_int) rfl)
      (pss_cons (ps_expr (pe_meth (pv 0) cl_M m_M_forget G_M_forget (hr.mono (by decide)) b_M_forget .nil pass0 (pa_cons (pv 1) pa_nil)))
      (pss_cons (ps_fld (pv 3) pe_int rfl)
      (pss_cons (ps_fld (pv 3) pe_int rfl)
      (pss_one (ps_ret (pe_tup (pa_cons pe_str (pa_cons (pv 2) pa_nil))))))))))
theorem ok_M_read (X : K.In h) (G : h.Ns mainGlobals mg) (c : He.SaysD fa fn K) : OkF P w K mg d_M_read 3 ["self", "hand"] (sp_M_read (ZZ K)) := by
  obtain ⟨fd, F0⟩ := c.def_ 21 (d := d_M_read) rfl
  have F : FunD K "read" "Machine.read" (defArgs s_M_read) (defBody s_M_read) (defScope s_M_read) [] [] (He.fAd K ("Machine", some "read")) fd := F0
  obtain ⟨fd_M_ended, GA_M_ended, b_M_ended, k_M_ended, _⟩ := ok_M_ended (P := P) (w := w) X G c
  have m_M_ended : Meth K (He.ga K "Machine") "ended" (He.ma K (He.ga K "Machine") "ended") := He.meth_ok (c.fact 51 (f := .meth "Machine" "ended") rfl)
  have cl_M : Cls K (He.ga K "Machine") := He.cls_ok (c.fact 0 (f := .cls "Machine") rfl)
  refine ⟨fd, fun base => ?_, F.bindsN (fun _ _ _ _ _ _ us hl => match us, hl with | [_, _], _ => rfl), F0.kp, F0⟩
  have G_M_ended := GA_M_ended base
  refine F.ok sc_M_read (fun vs H Q E h => len_M_read h) (fun cdv A outer s H vs Q E hr h => ⟨t_M_read (ZZ K), PSs.nox ?_, pure_M_read (zok c) vs H Q E h⟩)
  exact pss_cons (ps_set (i := 2) sc_M_read.nd rfl (Or.inl rfl) (pe_ix ix_list (pe_fld (pv 0) rfl) (pv 1) (fun _ _ => rfl)))
      (pss_cons (ps_if (PW.pt (pw_and (pt_cmpR op_eq (pe_fld (pv 0) rfl) pe_int (nomark _)) (pw_and1 (pt_cmpR op_eq (pe_ix ix_tup (pe_ix ix_list (pe_fld (pv 2) rfl) (pe_fld (pv 2) rfl) (fun _ _ => rfl)) pe_int (fun _ _ => rfl)) pe_str (nomark _))))) (pss_cons (ps_expr (pe_bm PySem.F.plainAttrs_list PySem.F.slot_list_append PySem.F.type_list_append mt_append (pe_fld (pv 0) rfl) (pa_cons (pe_tup (pa_cons (pv 1) (pa_cons (pe_fld (pv 2) rfl) pa_nil))) pa_nil)))
      (pss_one (ps_ret (pe_meth (pv 0) cl_M m_M_ended G_M_ended (hr.mono (by decide)) b_M_ended .nil pass0 (pa_cons (pv 1) (pa_cons pe_non pa_nil)))))) (pss_nil))
      (pss_cons (ps_fld (pv 2) (pe_tup (pa_cons (pe_fld (pv 0) rfl) (pa_cons (pe_fld (pv 0) rfl) pa_nil))) rfl)
      (pss_one (ps_ret (pe_tup (pa_cons pe_str (pa_cons (pe_fld (pv 0) rfl) pa_nil)))))))
theorem ok_M_exchange (X : K.In h) (G : h.Ns mainGlobals mg) (c : He.SaysD fa fn K) : OkF P w K mg d_M_exchange 2 ["self", "hand", "cell"] (sp_M_exchange (ZZ K)) := by
  obtain ⟨fd, F0⟩ := c.def_ 22 (d := d_M_exchange) rfl
  have F : FunD K "exchange" "Machine.exchange" (defArgs s_M_exchange) (defBody s_M_exchange) (defScope s_M_exchange) [] [] (He.fAd K ("Machine", some "exchange")) fd := F0
  obtain ⟨fd_M_forget, GA_M_forget, b_M_forget, k_M_forget, _⟩ := ok_M_forget (P := P) (w := w) X G c
  have m_M_forget : Meth K (He.ga K "Machine") "forget" (He.ma K (He.ga K "Machine") "forget") := He.meth_ok (c.fact 50 (f := .meth "Machine" "forget") rfl)
  have cl_M : Cls K (He.ga K "Machine") := He.cls_ok (c.fact 0 (f := .cls "Machine") rfl)
  refine ⟨fd, fun base => ?_, F.bindsN (fun _ _ _ _ _ _ us hl => match us, hl with | [_, _, _], _ => rfl), F0.kp, F0⟩
  have G_M_forget := GA_M_forget base
  refine F.ok sc_M_exchange (fun vs H Q E h => len_M_exchange h) (fun cdv A outer s H vs Q E hr h => ⟨t_M_exchange (ZZ K), PSs.nox ?_, pure_M_exchange (zok c) vs H Q E h⟩)
  exact pss_cons (ps_if (pt_cmpR (op_neD hr.units) (pe_tup (pa_cons (pe_fld (pv 0) rfl) (pa_cons (pe_fld (pv 0) rfl) pa_nil))) (pe_fld (pe_ix ix_list (pe_fld (pv 0) rfl) (pv 1) (fun _ _ => rfl)) rfl) (nomark _)) (pss_cons (ps_expr (pe_meth (pv 0) cl_M m_M_forget G_M_forget (hr.mono (by decide)) b_M_forget .nil pass0 (pa_cons (pv 1) pa_nil)))
      (pss_one (ps_ret pe_bl))) (pss_nil))
      (pss_cons (ps_fld (pv 0) (pv 2) rfl)
      (pss_cons (ps_if (pt_cmpR op_eq (pe_ix ix_tup (pe_fld (pv 0) rfl) pe_int (fun _ _ => rfl)) pe_str (nomark _)) (pss_one (ps_fld (pv 0) (pe_op op_mod (pe_op op_add (pe_fld (pv 0) rfl) pe_int) (pe_ix ix_tup (pe_fld (pv 0) rfl) pe_int (fun _ _ => rfl))) rfl)) (pss_nil))
      (pss_cons (ps_expr (pe_bm PySem.F.plainAttrs_list PySem.F.slot_list_append PySem.F.type_list_append mt_append (pe_fld (pv 0) rfl) (pa_cons (pe_tup (pa_cons (pv 1) (pa_cons (pe_fld (pe_ix ix_list (pe_fld (pv 0) rfl) (pv 1) (fun _ _ => rfl)) rfl) pa_nil))) pa_nil)))
      (pss_one (ps_ret pe_bl)))))
theorem ok_M_push (X : K.In h) (G : h.Ns mainGlobals mg) (c : He.SaysD fa fn K) : OkF P w K mg d_M_push 3 ["self", "hand"] (sp_M_push (ZZ K)) := by
  obtain ⟨fd, F0⟩ := c.def_ 23 (d := d_M_push) rfl
  have F : FunD K "push" "Machine.push" (defArgs s_M_push) (defBody s_M_push) (defScope s_M_push) [] [] (He.fAd K ("Machine", some "push")) fd := F0
  obtain ⟨fd_M_exchange, GA_M_exchange, b_M_exchange, k_M_exchange, _⟩ := ok_M_exchange (P := P) (w := w) X G c
  have m_M_exchange : Meth K (He.ga K "Machine") "exchange" (He.ma K (He.ga K "Machine") "exchange") := He.meth_ok (c.fact 53 (f := .meth "Machine" "exchange") rfl)
  obtain ⟨fd_M_ended, GA_M_ended, b_M_ended, k_M_ended, _⟩ := ok_M_ended (P := P) (w := w) X G c
  have m_M_ended : Meth K (He.ga K "Machine") "ended" (He.ma K (He.ga K "Machine") "ended") := He.meth_ok (c.fact 51 (f := .meth "Machine" "ended") rfl)
  have cl_M : Cls K (He.ga K "Machine") := He.cls_ok (c.fact 0 (f := .cls "Machine") rfl)
  refine ⟨fd, fun base => ?_, F.bindsN (fun _ _ _ _ _ _ us hl => match us, hl with | [_, _], _ => rfl), F0.kp, F0⟩
  have G_M_exchange := GA_M_exchange base
  have G_M_ended := GA_M_ended base
  refine F.ok sc_M_push (fun vs H Q E h => len_M_push h) (fun cdv A outer s H vs Q E hr h => ⟨t_M_push (ZZ K), PSs.nox ?_, pure_M_push (zok c) vs H Q E h⟩)
  exact pss_cons (ps_set (i := 2) sc_M_push.nd rfl (Or.inl rfl) (pe_ix ix_list (pe_fld (pv 0) rfl) (pv 1) (fun _ _ => rfl)))
      (pss_cons (ps_if (pt_cmpR op_isN (pe_fld (pv 2) rfl) pe_non (nomark _)) (pss_cons (ps_fld (pv 2) (pe_ix ix_tup (pe_fld (pv 2) rfl) pe_int (fun _ _ => rfl)) rfl)
      (pss_cons (ps_asg (pe_fld (pv 2) rfl) (pg_sub (pe_fld (pv 0) rfl) (pe_op op_sub (pe_fld (pv 2) rfl) pe_int) set_list))
      (pss_one (ps_ret (pe_tup (pa_cons pe_str (pa_cons (pe_fld (pv 2) rfl) pa_nil))))))) (pss_nil))
      (pss_cons (ps_if (pt_not (pt_val (pe_meth (pv 0) cl_M m_M_exchange G_M_exchange (hr.mono (by decide)) b_M_exchange .nil pass0 (pa_cons (pv 1) (pa_cons (pe_fld (pv 2) rfl) pa_nil))))) (pss_one (ps_ret (pe_tup (pa_cons pe_str pa_nil)))) (pss_nil))
      (pss_one (ps_ret (pe_meth (pv 0) cl_M m_M_ended G_M_ended (hr.mono (by decide)) b_M_ended .nil pass0 (pa_cons (pv 1) (pa_cons pe_str pa_nil)))))))
theorem ok_M_guard (X : K.In h) (G : h.Ns mainGlobals mg) (c : He.SaysD fa fn K) : OkF P w K mg d_M_guard 2 ["self", "hand", "cell"] (sp_M_guard (ZZ K)) := by
  obtain ⟨fd, F0⟩ := c.def_ 24 (d := d_M_guard) rfl
  have F : FunD K "guard" "Machine.guard" (defArgs s_M_guard) (defBody s_M_guard) (defScope s_M_guard) [] [] (He.fAd K ("Machine", some "guard")) fd := F0
  obtain ⟨fd_M_forget, GA_M_forget, b_M_forget, k_M_forget, _⟩ := ok_M_forget (P := P) (w := w) X G c
  have m_M_forget : Meth K (He.ga K "Machine") "forget" (He.ma K (He.ga K "Machine") "forget") := He.meth_ok (c.fact 50 (f := .meth "Machine" "forget") rfl)
  have cl_M : Cls K (He.ga K "Machine") := He.cls_ok (c.fact 0 (f := .cls "Machine") rfl)
  refine ⟨fd, fun base => ?_, F.bindsN (fun _ _ _ _ _ _ us hl => match us, hl with | [_, _, _], _ => rfl), F0.kp, F0⟩
  have G_M_forget := GA_M_forget base
  refine F.ok sc_M_guard (fun vs H Q E h => len_M_guard h) (fun cdv A outer s H vs Q E hr h => ⟨t_M_guard (ZZ K), PSs.nox ?_, pure_M_guard (zok c) vs H Q E h⟩)
  exact pss_cons (ps_set (i := 3) sc_M_guard.nd rfl (Or.inl rfl) (pe_ix ix_list (pe_fld (pv 0) rfl) (pv 1) (fun _ _ => rfl)))
      (pss_cons (ps_if (pt_cmpR op_ne (pe_fld (pv 3) rfl) (pv 2) (nomark _)) (pss_cons (ps_fld (pv 3) (pv 2) rfl)
      (pss_one (ps_ret (pe_tup (pa_cons pe_str (pa_cons (pv 2) pa_nil)))))) (pss_nil))
      (pss_cons (ps_if (pt_cmpR op_ne (pe_fld (pv 0) rfl) (pv 2) (nomark _)) (pss_cons (ps_expr (pe_meth (pv 0) cl_M m_M_forget G_M_forget (hr.mono (by decide)) b_M_forget .nil pass0 (pa_cons (pv 1) pa_nil)))
      (pss_one (ps_ret (pe_tup (pa_cons pe_str (pa_cons pe_bl pa_nil)))))) (pss_nil))
      (pss_cons (ps_fld (pv 3) pe_bl rfl)
      (pss_one (ps_ret (pe_tup (pa_cons pe_str (pa_cons pe_bl pa_nil))))))))
theorem ok_M_pop (X : K.In h) (G : h.Ns mainGlobals mg) (c : He.SaysD fa fn K) : OkF P w K mg d_M_pop 3 ["self", "hand"] (sp_M_pop (ZZ K)) := by
  obtain ⟨fd, F0⟩ := c.def_ 25 (d := d_M_pop) rfl
  have F : FunD K "pop" "Machine.pop" (defArgs s_M_pop) (defBody s_M_pop) (defScope s_M_pop) [] [] (He.fAd K ("Machine", some "pop")) fd := F0
  obtain ⟨fd_M_ended, GA_M_ended, b_M_ended, k_M_ended, _⟩ := ok_M_ended (P := P) (w := w) X G c
  have m_M_ended : Meth K (He.ga K "Machine") "ended" (He.ma K (He.ga K "Machine") "ended") := He.meth_ok (c.fact 51 (f := .meth "Machine" "ended") rfl)
  obtain ⟨fd_M_guard, GA_M_guard, b_M_guard, k_M_guard, _⟩ := ok_M_guard (P := P) (w := w) X G c
  have m_M_guard : Meth K (He.ga K "Machine") "guard" (He.ma K (He.ga K "Machine") "guard") := He.meth_ok (c.fact 55 (f := .meth "Machine" "guard") rfl)
  obtain ⟨fd_M_exchange, GA_M_exchange, b_M_exchange, k_M_exchange, _⟩ := ok_M_exchange (P := P) (w := w) X G c
  have m_M_exchange : Meth K (He.ga K "Machine") "exchange" (He.ma K (He.ga K "Machine") "exchange") := He.meth_ok (c.fact 53 (f := .meth "Machine" "exchange") rfl)
  have cl_M : Cls K (He.ga K "Machine") := He.cls_ok (c.fact 0 (f := .cls "Machine") rfl)
  refine ⟨fd, fun base => ?_, F.bindsN (fun _ _ _ _ _ _ us hl => match us, hl with | [_, _], _ => rfl), F0.kp, F0⟩
  have G_M_ended := GA_M_ended base
  have G_M_guard := GA_M_guard base
  have G_M_exchange := GA_M_exchange base
  refine F.ok sc_M_pop (fun vs H Q E h => len_M_pop h) (fun cdv A outer s H vs Q E hr h => ⟨t_M_pop (ZZ K), PSs.nox ?_, pure_M_pop (zok c) vs H Q E h⟩)
  exact pss_cons (ps_set (i := 2) sc_M_pop.nd rfl (Or.inl rfl) (pe_ix ix_list (pe_fld (pv 0) rfl) (pv 1) (fun _ _ => rfl)))
      (pss_cons (ps_if (pt_cmpR op_ne (pe_fld (pv 2) rfl) pe_int (nomark _)) (pss_cons (ps_expr (pe_bm PySem.F.plainAttrs_list PySem.F.slot_list_append PySem.F.type_list_append mt_append (pe_fld (pv 0) rfl) (pa_cons (pe_fld (pv 2) rfl) pa_nil)))
      (pss_one (ps_ret (pe_meth (pv 0) cl_M m_M_ended G_M_ended (hr.mono (by decide)) b_M_ended .nil pass0 (pa_cons (pv 1) (pa_cons (pe_ix ix_list (pe_fld (pv 0) rfl) (pe_op op_sub (pe_fld (pv 2) rfl) pe_int) (fun _ _ => rfl)) pa_nil)))))) (pss_nil))
      (pss_cons (ps_set (i := 3) sc_M_pop.nd rfl (Or.inl rfl) (pe_ix ix_tup (pe_fld (pv 2) rfl) pe_int (fun _ _ => rfl)))
      (pss_cons (ps_if (PW.pt (pw_and (pt_cmpR op_eq (pe_ix ix_tup (pe_fld (pv 0) rfl) pe_int (fun _ _ => rfl)) pe_str (nomark _)) (pw_and (pt_cmpR op_in_seq (pv 1) (pe_ix ix_tup (pe_fld (pv 0) rfl) pe_int (fun _ _ => rfl)) (by rfl)) (pw_and1 (pt_not (pt_val (pe_fld (pv 2) rfl))))))) (pss_one (ps_ret (pe_meth (pv 0) cl_M m_M_guard G_M_guard (hr.mono (by decide)) b_M_guard .nil pass0 (pa_cons (pv 1) (pa_cons (pv 3) pa_nil))))) (pss_nil))
      (pss_cons (ps_if (pt_cmpR op_isN (pe_fld (pv 2) rfl) pe_non (nomark _)) (pss_cons (ps_fld (pv 2) (pe_ix ix_list (pe_fld (pv 0) rfl) (pe_op op_sub (pv 3) pe_int) (fun _ _ => rfl)) rfl)
      (pss_one (ps_ret (pe_tup (pa_cons pe_str (pa_cons (pe_fld (pv 2) rfl) pa_nil)))))) (pss_nil))
      (pss_cons (ps_set (i := 4) sc_M_pop.nd rfl (Or.inl rfl) (pe_fld (pv 2) rfl))
      (pss_cons (ps_if (pt_not (pt_val (pe_meth (pv 0) cl_M m_M_exchange G_M_exchange (hr.mono (by decide)) b_M_exchange .nil pass0 (pa_cons (pv 1) (pa_cons (pv 4) pa_nil))))) (pss_one (ps_ret (pe_tup (pa_cons pe_str pa_nil)))) (pss_nil))
      (pss_cons (ps_fld (pv 0) (pe_or (pe_fld (pv 0) rfl) (pe_one (pe_cmpR (op_neD hr.units) (pe_ix ix_list (pe_fld (pv 0) rfl) (pe_op op_sub (pv 3) pe_int) (fun _ _ => rfl)) (pv 4) (nomark _)))) rfl)
      (pss_cons (ps_fld (pv 2) (pv 3) rfl)
      (pss_one (ps_ret (pe_tup (pa_cons pe_str (pa_cons (pv 4) pa_nil)))))))))))))
theorem ok_M_turn (X : K.In h) (G : h.Ns mainGlobals mg) (c : He.SaysD fa fn K) : OkF P w K mg d_M_turn 4 ["self", "hand"] (sp_M_turn (ZZ K)) := by
  obtain ⟨fd, F0⟩ := c.def_ 26 (d := d_M_turn) rfl
  have F : FunD K "turn" "Machine.turn" (defArgs s_M_turn) (defBody s_M_turn) (defScope s_M_turn) [] [] (He.fAd K ("Machine", some "turn")) fd := F0
  obtain ⟨fd_M_need_hand, GA_M_need_hand, b_M_need_hand, k_M_need_hand, _⟩ := ok_M_need_hand (P := P) (w := w) X G c
  have m_M_need_hand : Meth K (He.ga K "Machine") "need_hand" (He.ma K (He.ga K "Machine") "need_hand") := He.meth_ok (c.fact 46 (f := .meth "Machine" "need_hand") rfl)
  obtain ⟨fd_M_rests, GA_M_rests, b_M_rests, k_M_rests, _⟩ := ok_M_rests (P := P) (w := w) X G c
  have m_M_rests : Meth K (He.ga K "Machine") "rests" (He.ma K (He.ga K "Machine") "rests") := He.meth_ok (c.fact 47 (f := .meth "Machine" "rests") rfl)
  obtain ⟨fd_M_taken, GA_M_taken, b_M_taken, k_M_taken, _⟩ := ok_M_taken (P := P) (w := w) X G c
  have m_M_taken : Meth K (He.ga K "Machine") "taken" (He.ma K (He.ga K "Machine") "taken") := He.meth_ok (c.fact 49 (f := .meth "Machine" "taken") rfl)
  obtain ⟨fd_M_read, GA_M_read, b_M_read, k_M_read, _⟩ := ok_M_read (P := P) (w := w) X G c
  have m_M_read : Meth K (He.ga K "Machine") "read" (He.ma K (He.ga K "Machine") "read") := He.meth_ok (c.fact 52 (f := .meth "Machine" "read") rfl)
  obtain ⟨fd_M_push, GA_M_push, b_M_push, k_M_push, _⟩ := ok_M_push (P := P) (w := w) X G c
  have m_M_push : Meth K (He.ga K "Machine") "push" (He.ma K (He.ga K "Machine") "push") := He.meth_ok (c.fact 54 (f := .meth "Machine" "push") rfl)
  obtain ⟨fd_M_pop, GA_M_pop, b_M_pop, k_M_pop, _⟩ := ok_M_pop (P := P) (w := w) X G c
  have m_M_pop : Meth K (He.ga K "Machine") "pop" (He.ma K (He.ga K "Machine") "pop") := He.meth_ok (c.fact 56 (f := .meth "Machine" "pop") rfl)
  have cl_M : Cls K (He.ga K "Machine") := He.cls_ok (c.fact 0 (f := .cls "Machine") rfl)
  refine ⟨fd, fun base => ?_, F.bindsN (fun _ _ _ _ _ _ us hl => match us, hl with | [_, _], _ => rfl), F0.kp, F0⟩
  have G_M_need_hand := GA_M_need_hand base
  have G_M_rests := GA_M_rests base
  have G_M_taken := GA_M_taken base
  have G_M_read := GA_M_read base
  have G_M_push := GA_M_push base
  have G_M_pop := GA_M_pop base
  refine F.ok sc_M_turn (fun vs H Q E h => len_M_turn h) (fun cdv A outer s H vs Q E hr h => ⟨t_M_turn (ZZ K), PSs.nox ?_, pure_M_turn (zok c) vs H Q E h⟩)
  exact pss_cons (ps_set (i := 2) sc_M_turn.nd rfl (Or.inl rfl) (pe_meth (pv 0) cl_M m_M_need_hand G_M_need_hand (hr.mono (by decide)) b_M_need_hand .nil pass0 (pa_cons (pv 1) pa_nil)))
      (pss_cons (ps_if (pt_val (pe_meth (pv 0) cl_M m_M_rests G_M_rests (hr.mono (by decide)) b_M_rests .nil pass0 (pa_cons (pv 1) pa_nil))) (pss_one (ps_ret (pe_tup (pa_cons pe_str pa_nil)))) (pss_nil))
      (pss_cons (ps_set (i := 3) sc_M_turn.nd rfl (Or.inl rfl) (pe_ix ix_list (pe_fld (pv 2) rfl) (pe_fld (pv 2) rfl) (fun _ _ => rfl)))
      (pss_cons (ps_if (PW.pt (pw_and (pt_cmpR op_eq (pe_ix ix_tup (pv 3) pe_int (fun _ _ => rfl)) pe_str (nomark _)) (pw_and1 (pt_cmpR op_eq (pe_fld (pv 2) rfl) pe_int (nomark _))))) (pss_cons (ps_fld (pv 2) (pe_meth (pv 0) cl_M m_M_taken G_M_taken (hr.mono (by decide)) b_M_taken .nil pass0 (pa_cons (pe_ix ix_tup (pv 3) pe_int (fun _ _ => rfl)) pa_nil)) rfl)
      (pss_one (ps_ret (pe_tup (pa_cons pe_str (pa_cons (pe_fld (pv 2) rfl) pa_nil)))))) (pss_nil))
      (pss_cons (ps_if (pt_cmpR op_isN (pe_fld (pv 2) rfl) pe_non (nomark _)) (pss_one (ps_ret (pe_meth (pv 0) cl_M m_M_read G_M_read (hr.mono (by decide)) b_M_read .nil pass0 (pa_cons (pv 1) pa_nil)))) (pss_nil))
      (pss_cons (ps_if (pt_cmpR op_eq (pe_ix ix_tup (pv 3) pe_int (fun _ _ => rfl)) pe_str (nomark _)) (pss_one (ps_ret (pe_meth (pv 0) cl_M m_M_push G_M_push (hr.mono (by decide)) b_M_push .nil pass0 (pa_cons (pv 1) pa_nil)))) (pss_nil))
      (pss_one (ps_ret (pe_meth (pv 0) cl_M m_M_pop G_M_pop (hr.mono (by decide)) b_M_pop .nil pass0 (pa_cons (pv 1) pa_nil)))))))))
theorem ok_played (X : K.In h) (G : h.Ns mainGlobals mg) (c : He.SaysD fa fn K) : OkF P w K mg d_played 6 ["values", "programs", "rule", "weaving"] (sp_played (ZZ K)) := by
  obtain ⟨fd, F0⟩ := c.def_ 27 (d := d_played) rfl
  have F : FunD K "played" "played" (defArgs s_played) (defBody s_played) (defScope s_played) [] [] (He.fAd K ("played", none)) fd := F0
  obtain ⟨fd_M_init, GA_M_init, b_M_init, k_M_init, _⟩ := ok_M_init (P := P) (w := w) X G c
  obtain ⟨fd_M_turn, GA_M_turn, b_M_turn, k_M_turn, _⟩ := ok_M_turn (P := P) (w := w) X G c
  have m_M_turn : Meth K (He.ga K "Machine") "turn" (He.ma K (He.ga K "Machine") "turn") := He.meth_ok (c.fact 57 (f := .meth "Machine" "turn") rfl)
  have cl_M : Cls K (He.ga K "Machine") := He.cls_ok (c.fact 0 (f := .cls "Machine") rfl)
  have mk_M : Mk K (He.ga K "Machine") (He.ma K (He.ga K "Machine") "__init__") := He.mkr_ok (c.fact 2 (f := .mkr "Machine") rfl)
  have g_Machine : mg "Machine" = some (.ref (He.ga K "Machine")) := He.glo_ok X G (c.fact 21 (f := .glo "Machine") rfl)
  refine ⟨fd, fun base => ?_, F.bindsN (fun _ _ _ _ _ _ us hl => match us, hl with | [_, _, _, _], _ => rfl), F0.kp, F0⟩
  have G_M_init := GA_M_init base
  have G_M_turn := GA_M_turn base
  refine F.ok sc_played (fun vs H Q E h => len_played h) (fun cdv A outer s H vs Q E hr h => ⟨t_played (ZZ K), PSs.nox ?_, pure_played (zok c) vs H Q E h⟩)
  exact pss_cons (ps_set (i := 4) sc_played.nd rfl (Or.inr rfl) (pe_make mk_M G_M_init (hr.mono (by decide)) rfl g_Machine b_M_init .nil pass0 (pa_cons (pv 0) (pa_cons (pv 1) (pa_cons (pv 2) pa_nil)))))
      (pss_one (ps_ret (pe_lc (own := [("hand", 5)]) rfl sc_played.nd (pi_list (pv 3)) (blkOk_by (own := [("hand", 5)]) (N := ["values", "programs", "rule", "weaving", "machine", "hand"]) (sc := defScope s_played) (by decide +kernel)) (fun _ _ _ _ _ => (pg_name (i := 5) sc_played.nd rfl (Or.inl rfl))) (fun _ _ _ _ _ => pts_nil) (fun _ _ _ _ _ => (pe_meth (pv 4) cl_M m_M_turn G_M_turn (hr.mono (by decide)) b_M_turn .nil pass0 (pa_cons (pv 5) pa_nil))))))
theorem ok_M_is_done (X : K.In h) (G : h.Ns mainGlobals mg) (c : He.SaysD fa fn K) : OkF P w K mg d_M_is_done 2 ["self"] (sp_M_is_done (ZZ K)) := by
  obtain ⟨fd, F0⟩ := c.def_ 28 (d := d_M_is_done) rfl
  have F : FunD K "is_done" "Machine.is_done" (defArgs s_M_is_done) (defBody s_M_is_done) (defScope s_M_is_done) [] [] (He.fAd K ("Machine", some "is_done")) fd := F0
  obtain ⟨fd_M_rests, GA_M_rests, b_M_rests, k_M_rests, _⟩ := ok_M_rests (P := P) (w := w) X G c
  have m_M_rests : Meth K (He.ga K "Machine") "rests" (He.ma K (He.ga K "Machine") "rests") := He.meth_ok (c.fact 47 (f := .meth "Machine" "rests") rfl)
  have f_len : mg "len" = none := He.free_ok X G (c.fact 24 (f := .free "len") rfl)
  have f_range : mg "range" = none := He.free_ok X G (c.fact 28 (f := .free "range") rfl)
  have cl_M : Cls K (He.ga K "Machine") := He.cls_ok (c.fact 0 (f := .cls "Machine") rfl)
  refine ⟨fd, fun base => ?_, F.bindsN (fun _ _ _ _ _ _ us hl => match us, hl with | [_], _ => rfl), F0.kp, F0⟩
  have G_M_rests := GA_M_rests base
  refine F.ok sc_M_is_done (fun vs H Q E h => len_M_is_done h) (fun cdv A outer s H vs Q E hr h => ⟨t_M_is_done (ZZ K), PSs.nox ?_, pure_M_is_done (zok c) vs H Q E h⟩)
  exact pss_one (ps_ret (pe_cmpR (op_eqD hr.units) (pe_lc (own := [("hand", 1)]) rfl sc_M_is_done.nd (pi_range1 rfl f_range (pa_cons (pe_callB call_len_seq rfl f_len PySem.boot_len (pa_cons (pe_fld (pv 0) rfl) pa_nil)) pa_nil)) (blkOk_by (own := [("hand", 1)]) (N := ["self", "hand"]) (sc := defScope s_M_is_done) (by decide +kernel)) (fun _ _ _ _ _ => (pg_name (i := 1) sc_M_is_done.nd rfl (Or.inl rfl))) (fun _ _ _ _ _ => pts_one (pt_not (pt_val (pe_meth (pv 0) cl_M m_M_rests G_M_rests (hr.mono (by decide)) b_M_rests .nil pass0 (pa_cons (pv 1) pa_nil))))) (fun _ _ _ _ _ => (pv 1))) (pe_lst pa_nil) (nomark _)))
theorem ok_M_answers (X : K.In h) (G : h.Ns mainGlobals mg) (c : He.SaysD fa fn K) : OkF P w K mg d_M_answers 2 ["self", "hand"] (sp_M_answers (ZZ K)) := by
  obtain ⟨fd, F0⟩ := c.def_ 29 (d := d_M_answers) rfl
  have F : FunD K "answers" "Machine.answers" (defArgs s_M_answers) (defBody s_M_answers) (defScope s_M_answers) [] [] (He.fAd K ("Machine", some "answers")) fd := F0
  obtain ⟨fd_M_need_hand, GA_M_need_hand, b_M_need_hand, k_M_need_hand, _⟩ := ok_M_need_hand (P := P) (w := w) X G c
  have m_M_need_hand : Meth K (He.ga K "Machine") "need_hand" (He.ma K (He.ga K "Machine") "need_hand") := He.meth_ok (c.fact 46 (f := .meth "Machine" "need_hand") rfl)
  have f_list : mg "list" = none := He.free_ok X G (c.fact 45 (f := .free "list") rfl)
  have cl_M : Cls K (He.ga K "Machine") := He.cls_ok (c.fact 0 (f := .cls "Machine") rfl)
  refine ⟨fd, fun base => ?_, F.bindsN (fun _ _ _ _ _ _ us hl => match us, hl with | [_, _], _ => rfl), F0.kp, F0⟩
  have G_M_need_hand := GA_M_need_hand base
  refine F.ok sc_M_answers (fun vs H Q E h => len_M_answers h) (fun cdv A outer s H vs Q E hr h => ⟨t_M_answers (ZZ K), PSs.nox ?_, pure_M_answers (zok c) vs H Q E h⟩)
  exact pss_one (ps_ret (pe_callTy call_list_of rfl f_list (by decide +kernel) (pa_cons (pe_fld (pe_meth (pv 0) cl_M m_M_need_hand G_M_need_hand (hr.mono (by decide)) b_M_need_hand .nil pass0 (pa_cons (pv 1) pa_nil)) rfl) pa_nil)))
theorem ok_M_is_stale (X : K.In h) (G : h.Ns mainGlobals mg) (c : He.SaysD fa fn K) : OkF P w K mg d_M_is_stale 1 ["self"] (sp_M_is_stale (ZZ K)) := by
  obtain ⟨fd, F0⟩ := c.def_ 30 (d := d_M_is_stale) rfl
  have F : FunD K "is_stale" "Machine.is_stale" (defArgs s_M_is_stale) (defBody s_M_is_stale) (defScope s_M_is_stale) [] [] (He.fAd K ("Machine", some "is_stale")) fd := F0
  refine ⟨fd, fun base => ?_, F.bindsN (fun _ _ _ _ _ _ us hl => match us, hl with | [_], _ => rfl), F0.kp, F0⟩
  refine F.ok sc_M_is_stale (fun vs H Q E h => len_M_is_stale h) (fun cdv A outer s H vs Q E hr h => ⟨t_M_is_stale (ZZ K), PSs.nox ?_, pure_M_is_stale (zok c) vs H Q E h⟩)
  exact pss_one (ps_ret (pe_fld (pv 0) rfl))
theorem ok_M_pile (X : K.In h) (G : h.Ns mainGlobals mg) (c : He.SaysD fa fn K) : OkF P w K mg d_M_pile 1 ["self"] (sp_M_pile (ZZ K)) := by
  obtain ⟨fd, F0⟩ := c.def_ 31 (d := d_M_pile) rfl
  have F : FunD K "pile" "Machine.pile" (defArgs s_M_pile) (defBody s_M_pile) (defScope s_M_pile) [] [] (He.fAd K ("Machine", some "pile")) fd := F0
  refine ⟨fd, fun base => ?_, F.bindsN (fun _ _ _ _ _ _ us hl => match us, hl with | [_], _ => rfl), F0.kp, F0⟩
  refine F.ok sc_M_pile (fun vs H Q E h => len_M_pile h) (fun cdv A outer s H vs Q E hr h => ⟨t_M_pile (ZZ K), PSs.nox ?_, pure_M_pile (zok c) vs H Q E h⟩)
  exact pss_cons (ps_set (i := 1) sc_M_pile.nd rfl (Or.inl rfl) (pe_lst pa_nil))
      (pss_cons (ps_set (i := 2) sc_M_pile.nd rfl (Or.inl rfl) (pe_fld (pv 0) rfl))
      (pss_cons (ps_while PassesOwn.never (PW.pt (pw_and (pt_cmpR op_ne (pv 2) pe_int (nomark _)) (pw_and1 (pt_cmpR op_notIn_seq (pv 2) (pv 1) (by rfl))))) (pss_cons (ps_expr (pe_bm PySem.F.plainAttrs_list PySem.F.slot_list_append PySem.F.type_list_append mt_append (pv 1) (pa_cons (pv 2) pa_nil)))
      (pss_one (ps_set (i := 2) sc_M_pile.nd rfl (Or.inl rfl) (pe_ix ix_list (pe_fld (pv 0) rfl) (pe_op op_sub (pv 2) pe_int) (fun _ _ => rfl))))))
      (pss_one (ps_ret (pv 1)))))
theorem ok_M_pile_values (X : K.In h) (G : h.Ns mainGlobals mg) (c : He.SaysD fa fn K) : OkF P w K mg d_M_pile_values 2 ["self"] (sp_M_pile_values (ZZ K)) := by
  obtain ⟨fd, F0⟩ := c.def_ 32 (d := d_M_pile_values) rfl
  have F : FunD K "pile_values" "Machine.pile_values" (defArgs s_M_pile_values) (defBody s_M_pile_values) (defScope s_M_pile_values) [] [] (He.fAd K ("Machine", some "pile_values")) fd := F0
  obtain ⟨fd_M_pile, GA_M_pile, b_M_pile, k_M_pile, _⟩ := ok_M_pile (P := P) (w := w) X G c
  have m_M_pile : Meth K (He.ga K "Machine") "pile" (He.ma K (He.ga K "Machine") "pile") := He.meth_ok (c.fact 62 (f := .meth "Machine" "pile") rfl)
  have cl_M : Cls K (He.ga K "Machine") := He.cls_ok (c.fact 0 (f := .cls "Machine") rfl)
  refine ⟨fd, fun base => ?_, F.bindsN (fun _ _ _ _ _ _ us hl => match us, hl with | [_], _ => rfl), F0.kp, F0⟩
  have G_M_pile := GA_M_pile base
  refine F.ok sc_M_pile_values (fun vs H Q E h => len_M_pile_values h) (fun cdv A outer s H vs Q E hr h => ⟨t_M_pile_values (ZZ K), PSs.nox ?_, pure_M_pile_values (zok c) vs H Q E h⟩)
  exact pss_one (ps_ret (pe_lc (own := [("cell", 1)]) rfl sc_M_pile_values.nd (pi_list (pe_meth0 (pv 0) cl_M m_M_pile G_M_pile (hr.mono (by decide)) b_M_pile .nil pass0)) (blkOk_by (own := [("cell", 1)]) (N := ["self", "cell"]) (sc := defScope s_M_pile_values) (by decide +kernel)) (fun _ _ _ _ _ => (pg_name (i := 1) sc_M_pile_values.nd rfl (Or.inl rfl))) (fun _ _ _ _ _ => pts_nil) (fun _ _ _ _ _ => (pe_ix ix_list (pe_fld (pv 0) rfl) (pe_op op_sub (pv 1) pe_int) (fun _ _ => rfl)))))
theorem ok_M_order (X : K.In h) (G : h.Ns mainGlobals mg) (c : He.SaysD fa fn K) : OkF P w K mg d_M_order 1 ["self"] (sp_M_order (ZZ K)) := by
  obtain ⟨fd, F0⟩ := c.def_ 33 (d := d_M_order) rfl
  have F : FunD K "order" "Machine.order" (defArgs s_M_order) (defBody s_M_order) (defScope s_M_order) [] [] (He.fAd K ("Machine", some "order")) fd := F0
  have f_list : mg "list" = none := He.free_ok X G (c.fact 45 (f := .free "list") rfl)
  refine ⟨fd, fun base => ?_, F.bindsN (fun _ _ _ _ _ _ us hl => match us, hl with | [_], _ => rfl), F0.kp, F0⟩
  refine F.ok sc_M_order (fun vs H Q E h => len_M_order h) (fun cdv A outer s H vs Q E hr h => ⟨t_M_order (ZZ K), PSs.nox ?_, pure_M_order (zok c) vs H Q E h⟩)
  exact pss_one (ps_ret (pe_callTy call_list_of rfl f_list (by decide +kernel) (pa_cons (pe_fld (pv 0) rfl) pa_nil)))
theorem ok_whole (X : K.In h) (G : h.Ns mainGlobals mg) (c : He.SaysD fa fn K) : OkF P w K mg d_whole 6 ["values", "programs", "rule", "weaving"] (sp_whole (ZZ K)) := by
  obtain ⟨fd, F0⟩ := c.def_ 34 (d := d_whole) rfl
  have F : FunD K "whole" "whole" (defArgs s_whole) (defBody s_whole) (defScope s_whole) [] [] (He.fAd K ("whole", none)) fd := F0
  obtain ⟨fd_M_init, GA_M_init, b_M_init, k_M_init, _⟩ := ok_M_init (P := P) (w := w) X G c
  obtain ⟨fd_M_turn, GA_M_turn, b_M_turn, k_M_turn, _⟩ := ok_M_turn (P := P) (w := w) X G c
  have m_M_turn : Meth K (He.ga K "Machine") "turn" (He.ma K (He.ga K "Machine") "turn") := He.meth_ok (c.fact 57 (f := .meth "Machine" "turn") rfl)
  obtain ⟨fd_M_is_done, GA_M_is_done, b_M_is_done, k_M_is_done, _⟩ := ok_M_is_done (P := P) (w := w) X G c
  have m_M_is_done : Meth K (He.ga K "Machine") "is_done" (He.ma K (He.ga K "Machine") "is_done") := He.meth_ok (c.fact 59 (f := .meth "Machine" "is_done") rfl)
  obtain ⟨fd_M_answers, GA_M_answers, b_M_answers, k_M_answers, _⟩ := ok_M_answers (P := P) (w := w) X G c
  have m_M_answers : Meth K (He.ga K "Machine") "answers" (He.ma K (He.ga K "Machine") "answers") := He.meth_ok (c.fact 60 (f := .meth "Machine" "answers") rfl)
  obtain ⟨fd_M_is_stale, GA_M_is_stale, b_M_is_stale, k_M_is_stale, _⟩ := ok_M_is_stale (P := P) (w := w) X G c
  have m_M_is_stale : Meth K (He.ga K "Machine") "is_stale" (He.ma K (He.ga K "Machine") "is_stale") := He.meth_ok (c.fact 61 (f := .meth "Machine" "is_stale") rfl)
  obtain ⟨fd_M_pile_values, GA_M_pile_values, b_M_pile_values, k_M_pile_values, _⟩ := ok_M_pile_values (P := P) (w := w) X G c
  have m_M_pile_values : Meth K (He.ga K "Machine") "pile_values" (He.ma K (He.ga K "Machine") "pile_values") := He.meth_ok (c.fact 63 (f := .meth "Machine" "pile_values") rfl)
  obtain ⟨fd_M_order, GA_M_order, b_M_order, k_M_order, _⟩ := ok_M_order (P := P) (w := w) X G c
  have m_M_order : Meth K (He.ga K "Machine") "order" (He.ma K (He.ga K "Machine") "order") := He.meth_ok (c.fact 64 (f := .meth "Machine" "order") rfl)
  have f_len : mg "len" = none := He.free_ok X G (c.fact 24 (f := .free "len") rfl)
  have f_range : mg "range" = none := He.free_ok X G (c.fact 28 (f := .free "range") rfl)
  have cl_M : Cls K (He.ga K "Machine") := He.cls_ok (c.fact 0 (f := .cls "Machine") rfl)
  have mk_M : Mk K (He.ga K "Machine") (He.ma K (He.ga K "Machine") "__init__") := He.mkr_ok (c.fact 2 (f := .mkr "Machine") rfl)
  have g_Machine : mg "Machine" = some (.ref (He.ga K "Machine")) := He.glo_ok X G (c.fact 21 (f := .glo "Machine") rfl)
  refine ⟨fd, fun base => ?_, F.bindsN (fun _ _ _ _ _ _ us hl => match us, hl with | [_, _, _, _], _ => rfl), F0.kp, F0⟩
  have G_M_init := GA_M_init base
  have G_M_turn := GA_M_turn base
  have G_M_is_done := GA_M_is_done base
  have G_M_answers := GA_M_answers base
  have G_M_is_stale := GA_M_is_stale base
  have G_M_pile_values := GA_M_pile_values base
  have G_M_order := GA_M_order base
  refine F.ok sc_whole (fun vs H Q E h => len_whole h) (fun cdv A outer s H vs Q E hr h => ⟨t_whole (ZZ K), PSs.nox ?_, pure_whole (zok c) vs H Q E h⟩)
  exact pss_cons (ps_set (i := 4) sc_whole.nd rfl (Or.inr rfl) (pe_make mk_M G_M_init (hr.mono (by decide)) rfl g_Machine b_M_init .nil pass0 (pa_cons (pv 0) (pa_cons (pv 1) (pa_cons (pv 2) pa_nil)))))
      (pss_cons (ps_for PassesOwn.never rfl (pi_list (pv 3)) (pg_name (i := 5) sc_whole.nd rfl (Or.inl rfl)) (pss_one (ps_expr (pe_meth (pv 4) cl_M m_M_turn G_M_turn (hr.mono (by decide)) b_M_turn .nil pass0 (pa_cons (pv 5) pa_nil)))))
      (pss_cons (ps_while PassesOwn.never (pt_not (pt_val (pe_meth0 (pv 4) cl_M m_M_is_done G_M_is_done (hr.mono (by decide)) b_M_is_done .nil pass0))) (pss_one (ps_for PassesOwn.never rfl (pi_range1 rfl f_range (pa_cons (pe_callB call_len_seq rfl f_len PySem.boot_len (pa_cons (pv 1) pa_nil)) pa_nil)) (pg_name (i := 5) sc_whole.nd rfl (Or.inl rfl)) (pss_one (ps_expr (pe_meth (pv 4) cl_M m_M_turn G_M_turn (hr.mono (by decide)) b_M_turn .nil pass0 (pa_cons (pv 5) pa_nil)))))))
      (pss_cons (ps_setLc (i := 6) (own := [("hand", 5)]) rfl sc_whole.nd rfl rfl (sw_true rfl rfl rfl (by decide +kernel)) (pi_range1 rfl f_range (pa_cons (pe_callB call_len_seq rfl f_len PySem.boot_len (pa_cons (pv 1) pa_nil)) pa_nil)) (blkOk_by (own := [("hand", 5)]) (N := ["values", "programs", "rule", "weaving", "machine", "hand", "answers"]) (sc := defScope s_whole) (by decide +kernel)) (fun _ _ _ _ _ => (pg_name (i := 5) sc_whole.nd rfl (Or.inl rfl))) (fun _ _ _ _ _ => pts_nil) (fun _ _ _ _ _ => (pe_meth (pv 4) cl_M m_M_answers G_M_answers (hr.mono (by decide)) b_M_answers .nil pass0 (pa_cons (pv 5) pa_nil))))
      (pss_one (ps_ret (pe_tup (pa_cons (pv 6) (pa_cons (pe_meth0 (pv 4) cl_M m_M_order G_M_order (hr.mono (by decide)) b_M_order .nil pass0) (pa_cons (pe_meth0 (pv 4) cl_M m_M_pile_values G_M_pile_values (hr.mono (by decide)) b_M_pile_values .nil pass0) (pa_cons (pe_meth0 (pv 4) cl_M m_M_is_stale G_M_is_stale (hr.mono (by decide)) b_M_is_stale .nil pass0) pa_nil))))))))))
theorem ok_L_lower (X : K.In h) (G : h.Ns mainGlobals mg) (c : He.SaysD fa fn K) : OkF P w K mg d_L_lower 1 ["_law_step", "_law_by"] (sp_L_lower (ZZ K)) := by
  obtain ⟨fd, F0⟩ := c.def_ 35 (d := d_L_lower) rfl
  have F : FunD K "_law_lower" "_law_lower" (defArgs s_L_lower) (defBody s_L_lower) (defScope s_L_lower) [] [] (He.fAd K ("_law_lower", none)) fd := F0
  refine ⟨fd, fun base => ?_, F.bindsN (fun _ _ _ _ _ _ us hl => match us, hl with | [_, _], _ => rfl), F0.kp, F0⟩
  refine F.ok sc_L_lower (fun vs H Q E h => len_L_lower h) (fun cdv A outer s H vs Q E hr h => ⟨t_L_lower (ZZ K), PSs.nox ?_, pure_L_lower vs H Q E h⟩)
  exact pss_cons (ps_if (pt_cmpR op_in_seq (pe_ix ix_tup (pv 0) pe_int (fun _ _ => rfl)) (pe_tup (pa_cons pe_str (pa_cons pe_str (pa_cons pe_str (pa_cons pe_str (pa_cons pe_str (pa_cons pe_str pa_nil))))))) (by rfl)) (pss_one (ps_ret (pe_tup (pa_cons (pe_ix ix_tup (pv 0) pe_int (fun _ _ => rfl)) (pa_cons (pe_op op_add (pe_ix ix_tup (pv 0) pe_int (fun _ _ => rfl)) (pv 1)) pa_nil))))) (pss_nil))
      (pss_one (ps_ret (pv 0)))
theorem ok_M_free (X : K.In h) (G : h.Ns mainGlobals mg) (c : He.SaysD fa fn K) : OkF P w K mg d_M_free 1 ["self"] (sp_M_free (ZZ K)) := by
  obtain ⟨fd, F0⟩ := c.def_ 36 (d := d_M_free) rfl
  have F : FunD K "free" "Machine.free" (defArgs s_M_free) (defBody s_M_free) (defScope s_M_free) [] [] (He.fAd K ("Machine", some "free")) fd := F0
  have f_list : mg "list" = none := He.free_ok X G (c.fact 45 (f := .free "list") rfl)
  refine ⟨fd, fun base => ?_, F.bindsN (fun _ _ _ _ _ _ us hl => match us, hl with | [_], _ => rfl), F0.kp, F0⟩
  refine F.ok sc_M_free (fun vs H Q E h => len_M_free h) (fun cdv A outer s H vs Q E hr h => ⟨t_M_free (ZZ K), PSs.nox ?_, pure_M_free (zok c) vs H Q E h⟩)
  exact pss_one (ps_ret (pe_callTy call_list_of rfl f_list (by decide +kernel) (pa_cons (pe_fld (pv 0) rfl) pa_nil)))
theorem ok_M_top_now (X : K.In h) (G : h.Ns mainGlobals mg) (c : He.SaysD fa fn K) : OkF P w K mg d_M_top_now 1 ["self"] (sp_M_top_now (ZZ K)) := by
  obtain ⟨fd, F0⟩ := c.def_ 37 (d := d_M_top_now) rfl
  have F : FunD K "top_now" "Machine.top_now" (defArgs s_M_top_now) (defBody s_M_top_now) (defScope s_M_top_now) [] [] (He.fAd K ("Machine", some "top_now")) fd := F0
  refine ⟨fd, fun base => ?_, F.bindsN (fun _ _ _ _ _ _ us hl => match us, hl with | [_], _ => rfl), F0.kp, F0⟩
  refine F.ok sc_M_top_now (fun vs H Q E h => len_M_top_now h) (fun cdv A outer s H vs Q E hr h => ⟨t_M_top_now (ZZ K), PSs.nox ?_, pure_M_top_now (zok c) vs H Q E h⟩)
  exact pss_one (ps_ret (pe_tup (pa_cons (pe_fld (pv 0) rfl) (pa_cons (pe_fld (pv 0) rfl) pa_nil))))
theorem ok_law (X : K.In h) (G : h.Ns mainGlobals mg) (c : He.SaysD fa fn K) : OkF P w K mg d_law 7 ["_law_script"] (sp_law (ZZ K)) := by
  obtain ⟨fd, F0⟩ := c.def_ 38 (d := d_law) rfl
  have F : FunD K "law" "law" (defArgs s_law) (defBody s_law) (defScope s_law) [] [] (He.fAd K ("law", none)) fd := F0
  obtain ⟨fd_L_dice, GA_L_dice, b_L_dice, k_L_dice, _⟩ := ok_L_dice (P := P) (w := w) X G c
  have g_L_dice : mg "_law_dice" = some (.ref (He.ga K "_law_dice")) := He.glo_ok X G (c.fact 23 (f := .glo "_law_dice") rfl)
  obtain ⟨fd_L_case, GA_L_case, b_L_case, k_L_case, _⟩ := ok_L_case (P := P) (w := w) X G c
  have g_L_case : mg "_law_case" = some (.ref (He.ga K "_law_case")) := He.glo_ok X G (c.fact 34 (f := .glo "_law_case") rfl)
  obtain ⟨fd_L_next, GA_L_next, b_L_next, k_L_next, _⟩ := ok_L_next (P := P) (w := w) X G c
  have g_L_next : mg "_law_next" = some (.ref (He.ga K "_law_next")) := He.glo_ok X G (c.fact 26 (f := .glo "_law_next") rfl)
  obtain ⟨fd_played, GA_played, b_played, k_played, _⟩ := ok_played (P := P) (w := w) X G c
  have g_played : mg "played" = some (.ref (He.ga K "played")) := He.glo_ok X G (c.fact 58 (f := .glo "played") rfl)
  obtain ⟨fd_whole, GA_whole, b_whole, k_whole, _⟩ := ok_whole (P := P) (w := w) X G c
  have g_whole : mg "whole" = some (.ref (He.ga K "whole")) := He.glo_ok X G (c.fact 65 (f := .glo "whole") rfl)
  obtain ⟨fd_L_lower, GA_L_lower, b_L_lower, k_L_lower, _⟩ := ok_L_lower (P := P) (w := w) X G c
  have g_L_lower : mg "_law_lower" = some (.ref (He.ga K "_law_lower")) := He.glo_ok X G (c.fact 66 (f := .glo "_law_lower") rfl)
  obtain ⟨fd_M_init, GA_M_init, b_M_init, k_M_init, _⟩ := ok_M_init (P := P) (w := w) X G c
  obtain ⟨fd_M_turn, GA_M_turn, b_M_turn, k_M_turn, _⟩ := ok_M_turn (P := P) (w := w) X G c
  have m_M_turn : Meth K (He.ga K "Machine") "turn" (He.ma K (He.ga K "Machine") "turn") := He.meth_ok (c.fact 57 (f := .meth "Machine" "turn") rfl)
  obtain ⟨fd_M_order, GA_M_order, b_M_order, k_M_order, _⟩ := ok_M_order (P := P) (w := w) X G c
  have m_M_order : Meth K (He.ga K "Machine") "order" (He.ma K (He.ga K "Machine") "order") := He.meth_ok (c.fact 64 (f := .meth "Machine" "order") rfl)
  obtain ⟨fd_M_is_stale, GA_M_is_stale, b_M_is_stale, k_M_is_stale, _⟩ := ok_M_is_stale (P := P) (w := w) X G c
  have m_M_is_stale : Meth K (He.ga K "Machine") "is_stale" (He.ma K (He.ga K "Machine") "is_stale") := He.meth_ok (c.fact 61 (f := .meth "Machine" "is_stale") rfl)
  obtain ⟨fd_M_free, GA_M_free, b_M_free, k_M_free, _⟩ := ok_M_free (P := P) (w := w) X G c
  have m_M_free : Meth K (He.ga K "Machine") "free" (He.ma K (He.ga K "Machine") "free") := He.meth_ok (c.fact 67 (f := .meth "Machine" "free") rfl)
  obtain ⟨fd_M_top_now, GA_M_top_now, b_M_top_now, k_M_top_now, _⟩ := ok_M_top_now (P := P) (w := w) X G c
  have m_M_top_now : Meth K (He.ga K "Machine") "top_now" (He.ma K (He.ga K "Machine") "top_now") := He.meth_ok (c.fact 68 (f := .meth "Machine" "top_now") rfl)
  obtain ⟨fd_M_pile, GA_M_pile, b_M_pile, k_M_pile, _⟩ := ok_M_pile (P := P) (w := w) X G c
  have m_M_pile : Meth K (He.ga K "Machine") "pile" (He.ma K (He.ga K "Machine") "pile") := He.meth_ok (c.fact 62 (f := .meth "Machine" "pile") rfl)
  obtain ⟨fd_M_pile_values, GA_M_pile_values, b_M_pile_values, k_M_pile_values, _⟩ := ok_M_pile_values (P := P) (w := w) X G c
  have m_M_pile_values : Meth K (He.ga K "Machine") "pile_values" (He.ma K (He.ga K "Machine") "pile_values") := He.meth_ok (c.fact 63 (f := .meth "Machine" "pile_values") rfl)
  have f_range : mg "range" = none := He.free_ok X G (c.fact 28 (f := .free "range") rfl)
  have f_len : mg "len" = none := He.free_ok X G (c.fact 24 (f := .free "len") rfl)
  have cl_M : Cls K (He.ga K "Machine") := He.cls_ok (c.fact 0 (f := .cls "Machine") rfl)
  have mk_M : Mk K (He.ga K "Machine") (He.ma K (He.ga K "Machine") "__init__") := He.mkr_ok (c.fact 2 (f := .mkr "Machine") rfl)
  have g_Machine : mg "Machine" = some (.ref (He.ga K "Machine")) := He.glo_ok X G (c.fact 21 (f := .glo "Machine") rfl)
  refine ⟨fd, fun base => ?_, F.bindsN (fun _ _ _ _ _ _ us hl => match us, hl with | [_], _ => rfl), F0.kp, F0⟩
  have G_L_dice := GA_L_dice base
  have G_L_case := GA_L_case base
  have G_L_next := GA_L_next base
  have G_played := GA_played base
  have G_whole := GA_whole base
  have G_L_lower := GA_L_lower base
  have G_M_init := GA_M_init base
  have G_M_turn := GA_M_turn base
  have G_M_order := GA_M_order base
  have G_M_is_stale := GA_M_is_stale base
  have G_M_free := GA_M_free base
  have G_M_top_now := GA_M_top_now base
  have G_M_pile := GA_M_pile base
  have G_M_pile_values := GA_M_pile_values base
  refine F.ok sc_law (fun vs H Q E h => len_law h) (fun cdv A outer s H vs Q E hr h => ⟨t_law (ZZ K), PSs.nox ?_, pure_law (zok c) vs H Q E h⟩)
  exact pss_cons (ps_set (i := 1) sc_law.nd rfl (Or.inr rfl) (pe_call G_L_dice (hr.mono (by decide)) rfl g_L_dice k_L_dice b_L_dice .nil pass0 (pa_cons (pv 0) pa_nil)))
      (pss_cons (ps_asg (pe_call G_L_case (hr.mono (by decide)) rfl g_L_case k_L_case b_L_case .nil pass0 (pa_cons (pv 1) pa_nil)) (pg_tup rfl (pgs_cons (pg_name (i := 2) sc_law.nd rfl (Or.inl rfl)) (pgs_cons (pg_name (i := 3) sc_law.nd rfl (Or.inl rfl)) (pgs_cons (pg_name (i := 4) sc_law.nd rfl (Or.inl rfl)) (pgs_cons (pg_name (i := 5) sc_law.nd rfl (Or.inl rfl)) pgs_nil))))))
      (pss_cons (ps_par (i := 2) (j := 6) rfl sc_law.nd rfl rfl (by decide) rfl rfl (pa_cons (pe_slice sl_list (pv 2) po_none (po_some pe_int)) (pa_cons (pe_lc (own := [("_law_k", 7)]) rfl sc_law.nd (pi_range1 rfl f_range (pa_cons (pe_op op_add pe_int (pe_call G_L_next (hr.mono (by decide)) rfl g_L_next k_L_next b_L_next .nil pass0 (pa_cons (pv 1) (pa_cons pe_int pa_nil)))) pa_nil)) (blkOk_by (own := [("_law_k", 7)]) (N := ["_law_script", "_law_d", "_law_values_here", "_law_programs_here", "_law_rule_here", "_law_weaving_here", "_law_more", "_law_k", "_law_by", "_law_steps", "_law_step", "_law_one", "_law_two", "_law_hand", "_law_cell"]) (sc := defScope s_law) (by decide +kernel)) (fun _ _ _ _ _ => (pg_name (i := 7) sc_law.nd rfl (Or.inl rfl))) (fun _ _ _ _ _ => pts_nil) (fun _ _ _ _ _ => (pe_call G_L_next (hr.mono (by decide)) rfl g_L_next k_L_next b_L_next .nil pass0 (pa_cons (pv 1) (pa_cons pe_int pa_nil))))) pa_nil)) rfl)
      (pss_cons (ps_asg (pe_tup (pa_cons (pe_callB call_len_seq rfl f_len PySem.boot_len (pa_cons (pv 6) pa_nil)) (pa_cons (pe_call G_played (hr.mono (by decide)) rfl g_played k_played b_played .nil pass0 (pa_cons (pv 2) (pa_cons (pv 3) (pa_cons (pv 4) (pa_cons (pv 5) pa_nil))))) pa_nil))) (pg_tup rfl (pgs_cons (pg_name (i := 8) sc_law.nd rfl (Or.inr rfl)) (pgs_cons (pg_name (i := 9) sc_law.nd rfl (Or.inl rfl)) pgs_nil))))
      (pss_cons (ps_if (pt_cmpR (op_inD hr.u65) (pe_tup (pa_cons pe_str (pa_cons pe_non pa_nil))) (pv 9) (by rfl)) (pss_one (ps_ret (pe_cmpR (op_inDT hr.u65) (pe_ix ix_tup (pe_call G_whole (hr.mono (by decide)) rfl g_whole k_whole b_whole .nil pass0 (pa_cons (pv 2) (pa_cons (pv 3) (pa_cons (pv 4) (pa_cons (pv 5) pa_nil))))) pe_int (fun _ _ => rfl)) (pe_tup (pa_cons pe_bl (pa_cons pe_bl pa_nil))) (by rfl)))) (pss_nil))
      (pss_cons (ps_if (pt_cmpR (op_neD hr.units) (pe_call G_played (hr.mono (by decide)) rfl g_played k_played b_played .nil pass0 (pa_cons (pe_op op_cat (pv 6) (pv 2)) (pa_cons (pv 3) (pa_cons (pv 4) (pa_cons (pv 5) pa_nil))))) (pe_lc (own := [("_law_step", 10)]) rfl sc_law.nd (pi_list (pv 9)) (blkOk_by (own := [("_law_step", 10)]) (N := ["_law_script", "_law_d", "_law_values_here", "_law_programs_here", "_law_rule_here", "_law_weaving_here", "_law_more", "_law_k", "_law_by", "_law_steps", "_law_step", "_law_one", "_law_two", "_law_hand", "_law_cell"]) (sc := defScope s_law) (by decide +kernel)) (fun _ _ _ _ _ => (pg_name (i := 10) sc_law.nd rfl (Or.inl rfl))) (fun _ _ _ _ _ => pts_nil) (fun _ _ _ _ _ => (pe_call G_L_lower (hr.mono (by decide)) rfl g_L_lower k_L_lower b_L_lower .nil pass0 (pa_cons (pv 10) (pa_cons (pv 8) pa_nil))))) (nomark _)) (pss_one (ps_ret pe_bl)) (pss_nil))
      (pss_cons (ps_par (i := 11) (j := 12) rfl sc_law.nd rfl rfl (by decide) rfl rfl (pa_cons (pe_make mk_M G_M_init (hr.mono (by decide)) rfl g_Machine b_M_init .nil pass0 (pa_cons (pv 2) (pa_cons (pv 3) (pa_cons (pv 4) pa_nil)))) (pa_cons (pe_make mk_M G_M_init (hr.mono (by decide)) rfl g_Machine b_M_init .nil pass0 (pa_cons (pe_op op_cat (pv 6) (pv 2)) (pa_cons (pv 3) (pa_cons (pv 4) pa_nil)))) pa_nil)) rfl)
      (pss_cons (ps_for PassesOwn.never rfl (pi_list (pv 5)) (pg_name (i := 13) sc_law.nd rfl (Or.inl rfl)) (pss_cons (ps_expr (pe_meth (pv 11) cl_M m_M_turn G_M_turn (hr.mono (by decide)) b_M_turn .nil pass0 (pa_cons (pv 13) pa_nil)))
      (pss_one (ps_expr (pe_meth (pv 12) cl_M m_M_turn G_M_turn (hr.mono (by decide)) b_M_turn .nil pass0 (pa_cons (pv 13) pa_nil))))))
      (pss_cons (ps_if (PW.pt (pw_or (pt_cmpR op_ne (pe_meth0 (pv 11) cl_M m_M_is_stale G_M_is_stale (hr.mono (by decide)) b_M_is_stale .nil pass0) (pe_meth0 (pv 12) cl_M m_M_is_stale G_M_is_stale (hr.mono (by decide)) b_M_is_stale .nil pass0) (nomark _)) (pw_or1 (pt_cmpR (op_neD hr.units) (pe_meth0 (pv 11) cl_M m_M_order G_M_order (hr.mono (by decide)) b_M_order .nil pass0) (pe_meth0 (pv 12) cl_M m_M_order G_M_order (hr.mono (by decide)) b_M_order .nil pass0) (nomark _))))) (pss_one (ps_ret pe_bl)) (pss_nil))
      (pss_cons (ps_if (pt_cmpR (op_neD hr.units) (pe_meth0 (pv 12) cl_M m_M_free G_M_free (hr.mono (by decide)) b_M_free .nil pass0) (pe_lc (own := [("_law_cell", 14)]) rfl sc_law.nd (pi_list (pe_meth0 (pv 11) cl_M m_M_free G_M_free (hr.mono (by decide)) b_M_free .nil pass0)) (blkOk_by (own := [("_law_cell", 14)]) (N := ["_law_script", "_law_d", "_law_values_here", "_law_programs_here", "_law_rule_here", "_law_weaving_here", "_law_more", "_law_k", "_law_by", "_law_steps", "_law_step", "_law_one", "_law_two", "_law_hand", "_law_cell"]) (sc := defScope s_law) (by decide +kernel)) (fun _ _ _ _ _ => (pg_name (i := 14) sc_law.nd rfl (Or.inl rfl))) (fun _ _ _ _ _ => pts_nil) (fun _ _ _ _ _ => (pe_op op_add (pv 14) (pv 8)))) (nomark _)) (pss_one (ps_ret pe_bl)) (pss_nil))
      (pss_cons (ps_if (pt_cmpR (op_neD hr.units) (pe_meth0 (pv 12) cl_M m_M_top_now G_M_top_now (hr.mono (by decide)) b_M_top_now .nil pass0) (pe_tup (pa_cons (pe_op op_add (pe_ix ix_tup (pe_meth0 (pv 11) cl_M m_M_top_now G_M_top_now (hr.mono (by decide)) b_M_top_now .nil pass0) pe_int (fun _ _ => rfl)) (pv 8)) (pa_cons (pe_ix ix_tup (pe_meth0 (pv 11) cl_M m_M_top_now G_M_top_now (hr.mono (by decide)) b_M_top_now .nil pass0) pe_int (fun _ _ => rfl)) pa_nil))) (nomark _)) (pss_one (ps_ret pe_bl)) (pss_nil))
      (pss_cons (ps_if (pt_val (pe_meth0 (pv 11) cl_M m_M_is_stale G_M_is_stale (hr.mono (by decide)) b_M_is_stale .nil pass0)) (pss_one (ps_ret pe_bl)) (pss_nil))
      (pss_cons (ps_if (pt_cmpR (op_neD hr.units) (pe_slice sl_list (pe_meth0 (pv 12) cl_M m_M_pile G_M_pile (hr.mono (by decide)) b_M_pile .nil pass0) po_none (po_some (pe_callB call_len_seq rfl f_len PySem.boot_len (pa_cons (pe_meth0 (pv 11) cl_M m_M_pile G_M_pile (hr.mono (by decide)) b_M_pile .nil pass0) pa_nil)))) (pe_lc (own := [("_law_cell", 14)]) rfl sc_law.nd (pi_list (pe_meth0 (pv 11) cl_M m_M_pile G_M_pile (hr.mono (by decide)) b_M_pile .nil pass0)) (blkOk_by (own := [("_law_cell", 14)]) (N := ["_law_script", "_law_d", "_law_values_here", "_law_programs_here", "_law_rule_here", "_law_weaving_here", "_law_more", "_law_k", "_law_by", "_law_steps", "_law_step", "_law_one", "_law_two", "_law_hand", "_law_cell"]) (sc := defScope s_law) (by decide +kernel)) (fun _ _ _ _ _ => (pg_name (i := 14) sc_law.nd rfl (Or.inl rfl))) (fun _ _ _ _ _ => pts_nil) (fun _ _ _ _ _ => (pe_op op_add (pv 14) (pv 8)))) (nomark _)) (pss_one (ps_ret pe_bl)) (pss_nil))
      (pss_one (ps_ret (pe_cmpR (op_eqD hr.units) (pe_meth0 (pv 12) cl_M m_M_pile_values G_M_pile_values (hr.mono (by decide)) b_M_pile_values .nil pass0) (pe_op op_cat (pe_meth0 (pv 11) cl_M m_M_pile_values G_M_pile_values (hr.mono (by decide)) b_M_pile_values .nil pass0) (pe_revL (pv 6))) (nomark _))))))))))))))))
end
def loose : List PySem.Str := (["_wall", "__name__", "PileError", "BadPile", "BadDeed", "BadRule", "NoHand", "MOST_VALUES", "MOST_VALUE", "MOST_HANDS", "MOST_DEEDS", "MOST_COUNTS", "need_values", "is_deed", "need_deeds", "need_programs", "need_rule", "Hand", "Machine", "played", "whole", "_law_dice", "_law_next", "_law_values", "_law_deed", "_law_programs", "_law_rule", "_law_weaving", "_law_case", "_law_lower"] : List PySem.Str)
abbrev R : PySem.W.OpenRow := PySem.W.OpenLaw.row PySem.Challenge.rw_stalestack_k36_whole_deeper_piles
abbrev hk : PySem.W.Hook := He.hookD 5 fa fn
def ob (s : PySem.W.SharedT) : He.AlD := He.obsDG 5 fa fn (HandSHeadRun.getT s)
theorem ob_eq (s : PySem.W.SharedT) : ob s = hk.obs s.abs := He.obsDG_eq (HandSHeadRun.getT_eq s)
theorem run (w : World) : HandSHeadRun.RunEq R (PySem.W.view R.prog [34]) hk ob 12000 loose w := by
  intro os
  kernel_rfl
end SR
open PySem PySem.W PySem.Calls PyProof.Rows
theorem PySem.Challenge.cw_stalestack_k36_whole_deeper_piles_holds : PySem.Challenge.rw_stalestack_k36_whole_deeper_piles.Holds := by
  w_on; o_law
  refine HandSHeadRun.head_any (r := OpenLaw.row PySem.Challenge.rw_stalestack_k36_whole_deeper_piles) (q := view (OpenLaw.row PySem.Challenge.rw_stalestack_k36_whole_deeper_piles).prog [34]) (H := SR.hk) (ob := SR.ob) (M := 12000) (loose := SR.loose) (d := HandSHeadRun.topDef (OpenLaw.row PySem.Challenge.rw_stalestack_k36_whole_deeper_piles).prog 34) (kwd := []) SR.ob_eq
    (by kernel_rfl) (fun s => by kernel_rfl) SR.run (by kernel_rfl) (by kernel_rfl) (by kernel_rfl) (by rfl) (by first | assumption | decide +kernel) (by decide +kernel) ⟨rfl, rfl, rfl, rfl, rfl, by decide +kernel⟩ ?hw ?hc
  case hw => w_witness2
  case hc =>
    refine L2.walk_ofE (l := PySem.Challenge.rw_stalestack_k36_whole_deeper_piles) (n := 63) (k := 7) (x := "_law_script") (CX := L2.CX0) rfl (by decide) (by kernel_rfl) ⟨rfl, by decide, by decide⟩ ?F (fun _ _ _ _ z => z)
    intro w mg fa h Y G hmg0
    obtain ⟨K, KX, c⟩ := Y
    have hmg : mg ("law" : PySem.Str) = some (.ref fa) := by
      have e : (HandSHeadRun.topDef (OpenLaw.row PySem.Challenge.rw_stalestack_k36_whole_deeper_piles).prog 34).name = ("law" : PySem.Str) := by kernel_rfl
      rw [← e]
      exact hmg0
    have e := hmg.symm.trans (He.glo_ok KX G (c.fact 69 (f := .glo "law") rfl))
    cases e
    obtain ⟨fd, F2, _, _, F0⟩ := SR.ok_law (P := (PySem.Challenge.rw_stalestack_k36_whole_deeper_piles).prog) (w := w) KX G c
    have b2 := L2.FunD.bindsA (ps := ["_law_script"]) F0 fun _ _ _ _ _ _ us hl => match us, hl with | [_], _ => rfl
    exact ⟨K, fd, SS.sp_law (SR.ZZ K), KX, fun s v => b2 s [v] rfl, fun H a ns hl hO hS => ⟨a, ns, rfl, SS.ScrAt.of hO hS, hl, fun _ => rfl⟩, fun base _ _ => F2 base⟩


