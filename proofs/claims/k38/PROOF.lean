import PyProof.Rows.All
import Wide.All
import OpenK.AllK
import Wide.FinOn
import KE.KStateDown
import HandS.ForMost
import HandS.More
import HandS.WordsExc
import HandS.Conv
import HandS.SetFor
import HandS.Style
import HandS.TupAny
import HandS.Deep
import HandS.Defaults
import HandS.IsInst
import HandS.SortRule
import HandS.Head0
import HandS.Head1
import HandS.Head2
import HandS.HeadEnd
import HandS.HeadHook1
import HandS.HeadHook2
import KE.KDictKeyed
import KE.KDictLaw
import KE.KDictDisplayH
import PyProof.NeKinds
import PySem.Challenge.RW_stalestack_k38_whole_shorter_programs
/-! The machine of hands as a plain function: what a turn tells and leaves. -/
namespace SS

inductive Deed where
  | pop
  | push (v : Int)
  deriving DecidableEq, Repr

inductive Rule where
  | counts (m : Nat)
  | marks (hs : List Nat)
  | keeps
  deriving DecidableEq, Repr

inductive Ans where
  | non
  | done
  | val (v : Int)
  deriving DecidableEq, Repr

inductive Tell where
  | rests
  | takes (c : Nat)
  | reads (t : Nat)
  | ends (a : Ans)
  | links (t : Nat)
  | marks (c : Nat)
  | looks (b : Bool)
  | follows (n : Nat)
  | exchanges (n : Nat)
  | misses
  deriving DecidableEq, Repr

structure Hd where
  at_ : Nat := 0
  cell : Nat := 0
  seen : Option (Nat × Nat) := none
  follow : Option Nat := none
  mark : Nat := 0
  looked : Bool := false
  said : List Ans := []
  deriving DecidableEq, Repr

structure M where
  rule : Rule
  progs : List (List Deed)
  worths : List Int
  links : List Nat
  top : Nat
  count : Nat
  freed : List Nat
  hands : List Hd
  ends : List (Nat × Nat)
  strayed : Bool
  deriving DecidableEq, Repr

def M.begin_ (values : List Int) (progs : List (List Deed)) (rule : Rule) : M where
  rule := rule
  progs := progs
  worths := values
  links := List.range values.length
  top := values.length
  count := 0
  freed := []
  hands := progs.map fun _ => {}
  ends := []
  strayed := false

def M.hd (m : M) (h : Nat) : Hd := m.hands.getD h {}
def M.prog (m : M) (h : Nat) : List Deed := m.progs.getD h []
def M.setH (m : M) (h : Nat) (x : Hd) : M := { m with hands := m.hands.set h x }
def M.rests (m : M) (h : Nat) : Bool := (m.hd h).at_ == (m.prog h).length
def M.marked (m : M) : List Nat := (m.hands.map (·.mark)).filter (· != 0)

def Hd.forgot (x : Hd) : Hd := { x with seen := none, follow := none, looked := false }
def Hd.ended (x : Hd) (a : Ans) : Hd :=
  { at_ := x.at_ + 1, cell := 0, seen := none, follow := none, mark := 0, looked := false, said := x.said ++ [a] }

/-- the free cell that a push takes, if there is one -/
def pick (rule : Rule) (marked freed : List Nat) : Option Nat :=
  if rule = .keeps then none else freed.find? fun c => !marked.contains c
/-- a cell for a value -/
def M.taken (m : M) (v : Int) : Nat × M :=
  match pick m.rule m.marked m.freed with
  | some c => (c, { m with freed := m.freed.erase c, worths := m.worths.set (c - 1) v })
  | none => (m.worths.length + 1, { m with worths := m.worths ++ [v], links := m.links ++ [0] })

def M.turned (m : M) : Nat :=
  match m.rule with
  | .counts k => (m.count + 1) % k
  | _ => m.count
/-- the top is exchanged -/
def M.exchd (m : M) (h c : Nat) : M :=
  { m with top := c, count := m.turned, ends := m.ends ++ [(h, (m.hd h).at_)] }
def M.fits (m : M) (h : Nat) : Bool := decide ((m.hd h).seen = some (m.top, m.count))
def M.exch (m : M) (h c : Nat) : Bool × M :=
  if m.fits h then (true, m.exchd h c) else (false, m.setH h (m.hd h).forgot)

def M.endedH (m : M) (h : Nat) (a : Ans) : M := m.setH h ((m.hd h).ended a)

def M.read (m : M) (h : Nat) (d : Deed) : Tell × M :=
  if m.top = 0 ∧ d = .pop then
    (.ends .non, { m with ends := m.ends ++ [(h, (m.hd h).at_)] }.endedH h .non)
  else (.reads m.top, m.setH h { m.hd h with seen := some (m.top, m.count) })

def M.push (m : M) (h : Nat) (t : Nat) : Tell × M :=
  match (m.hd h).follow with
  | none => (.links t, { m with links := m.links.set ((m.hd h).cell - 1) t }.setH h { m.hd h with follow := some t })
  | some _ =>
    if m.fits h then (.ends .done, (m.exchd h (m.hd h).cell).endedH h .done)
    else (.misses, m.setH h (m.hd h).forgot)

def Rule.named (r : Rule) (h : Nat) : Bool :=
  match r with
  | .marks hs => hs.contains h
  | _ => false

def M.guard (m : M) (h c : Nat) : Tell × M :=
  if (m.hd h).mark ≠ c then (.marks c, m.setH h { m.hd h with mark := c })
  else if m.top ≠ c then (.looks false, m.setH h (m.hd h).forgot)
  else (.looks true, m.setH h { m.hd h with looked := true })

def M.pop (m : M) (h : Nat) (t : Nat) : Tell × M :=
  if (m.hd h).cell ≠ 0 then
    (.ends (.val (m.worths.getD ((m.hd h).cell - 1) 0)),
      { m with freed := m.freed ++ [(m.hd h).cell] }.endedH h (.val (m.worths.getD ((m.hd h).cell - 1) 0)))
  else if m.rule.named h ∧ (m.hd h).looked = false then m.guard h t
  else match (m.hd h).follow with
    | none => (.follows (m.links.getD (t - 1) 0), m.setH h { m.hd h with follow := some (m.links.getD (t - 1) 0) })
    | some f =>
      if m.fits h then
        (.exchanges f,
          { m.exchd h f with strayed := m.strayed || m.links.getD (t - 1) 0 != f }.setH h { m.hd h with cell := t })
      else (.misses, m.setH h (m.hd h).forgot)

def M.turn (m : M) (h : Nat) : Tell × M :=
  match (m.prog h)[(m.hd h).at_]? with
  | none => (.rests, m)
  | some (.push v) =>
    if (m.hd h).cell = 0 then
      let r := m.taken v
      (.takes r.1, r.2.setH h { m.hd h with cell := r.1 })
    else match (m.hd h).seen with
      | none => m.read h (.push v)
      | some s => m.push h s.1
  | some .pop =>
    match (m.hd h).seen with
    | none => m.read h .pop
    | some s => m.pop h s.1

def M.step (m : M) (h : Nat) : M := (m.turn h).2
def M.run (m : M) (w : List Nat) : M := w.foldl M.step m

def M.pileFrom (links : List Nat) : Nat → List Nat → Nat → List Nat
  | 0, found, _ => found
  | n + 1, found, cell => if cell = 0 ∨ cell ∈ found then found else M.pileFrom links n (found ++ [cell]) (links.getD (cell - 1) 0)
def M.pile (m : M) : List Nat := M.pileFrom m.links (m.links.length + 1) [] m.top
def M.pileValues (m : M) : List Int := m.pile.map fun c => m.worths.getD (c - 1) 0
def M.isDone (m : M) : Bool := (List.range m.hands.length).all m.rests

end SS

set_option linter.all false
/-! What holds of the machine behind every step. -/
namespace SS
def okVal (v : Int) : Prop := 0 ≤ v ∧ v ≤ 99
def okDeed : Deed → Prop
  | .pop => True
  | .push v => okVal v
def rising : List Nat → Prop
  | [] => True
  | [_] => True
  | a :: b :: l => a < b ∧ rising (b :: l)
def okRule (many : Nat) : Rule → Prop
  | .counts m => 1 ≤ m ∧ m ≤ 15
  | .marks hs => (∀ h ∈ hs, h < many) ∧ rising hs ∧ hs.length ≤ 1000
  | .keeps => True
structure okIn (values : List Int) (progs : List (List Deed)) (rule : Rule) : Prop where
  vlen : values.length ≤ 6
  vals : ∀ v ∈ values, okVal v
  plen : 1 ≤ progs.length ∧ progs.length ≤ 3
  dlen : ∀ p ∈ progs, p.length ≤ 4
  deeds : ∀ p ∈ progs, ∀ d ∈ p, okDeed d
  rule : okRule progs.length rule
def okCount (m : M) : Prop := ∀ k, m.rule = .counts k → 0 < k
/-- what every step rests on -/
structure Wf (m : M) : Prop where
  ps : m.progs.length = m.hands.length
  hn : m.hands.length ≤ 1000
  wl : m.worths.length < 1000
  ll : m.links.length = m.worths.length
  fl : m.freed.length < 1000
  el : m.ends.length < 1000
  count : okCount m
  sl : ∀ h, (m.hd h).said.length < 1000
  at_ : ∀ h, (m.hd h).at_ ≤ (m.prog h).length
  fr : ∀ c ∈ m.freed, 1 ≤ c ∧ c ≤ m.worths.length
  cell : ∀ h, (m.hd h).cell ≤ m.worths.length
  pushC : ∀ h v s, (m.prog h)[(m.hd h).at_]? = some (.push v) → (m.hd h).seen = some s → 1 ≤ (m.hd h).cell
  popC : ∀ h s, (m.prog h)[(m.hd h).at_]? = some .pop → (m.hd h).seen = some s → 1 ≤ s.1 ∧ s.1 ≤ m.worths.length
/-- the cells that may be met lie there -/
structure PileOk (m : M) : Prop where
  wl : m.worths.length ≤ 1000
  ll : m.links.length = m.worths.length
  top : m.top ≤ m.links.length
  links : ∀ c ∈ m.links, c ≤ m.links.length

/-! ### one hand -/
structure HOk (n : Nat) (p : List Deed) (x : Hd) : Prop where
  said : x.said.length = x.at_
  at_ : x.at_ ≤ p.length
  fin : p[x.at_]? = none → x.cell = 0 ∧ x.seen = none
  cell : x.cell ≤ n
  seen : ∀ s, x.seen = some s → s.1 ≤ n
  follow : ∀ f, x.follow = some f → f ≤ n
  pushC : ∀ v s, p[x.at_]? = some (.push v) → x.seen = some s → 1 ≤ x.cell
  popC : ∀ s, p[x.at_]? = some .pop → x.seen = some s → 1 ≤ s.1
  popS : p[x.at_]? = some .pop → x.cell ≠ 0 → x.seen ≠ none
theorem HOk.mono {n n' : Nat} {p : List Deed} {x : Hd} (h : HOk n p x) (l : n ≤ n') : HOk n' p x :=
  ⟨h.said, h.at_, h.fin, Nat.le_trans h.cell l, fun s e => Nat.le_trans (h.seen s e) l, fun s e => Nat.le_trans (h.follow s e) l, h.pushC, h.popC, h.popS⟩
/-- cells taken, deeds decided, deeds ended by a hand -/
def used (x : Hd) : Nat := x.at_ + if x.cell = 0 then 0 else 1
def decd (p : List Deed) (x : Hd) : Nat := x.at_ + if p[x.at_]? = some .pop ∧ x.cell ≠ 0 then 1 else 0
theorem HOk.used_le {n : Nat} {p : List Deed} {x : Hd} (h : HOk n p x) : used x ≤ p.length := by
  unfold used
  have := h.at_
  split
  · omega
  · rename_i hc
    have : p[x.at_]? ≠ none := fun e => hc (h.fin e).1
    have : x.at_ < p.length := by
      have z : ¬ p.length ≤ x.at_ := fun q => this (List.getElem?_eq_none q)
      omega
    omega
theorem HOk.dec_le {n : Nat} {p : List Deed} {x : Hd} (h : HOk n p x) : decd p x ≤ p.length := by
  unfold decd
  have := h.at_
  split
  · rename_i hc
    have := (List.getElem?_eq_some_iff.mp hc.1).1
    omega
  · omega

/-! ### sums over the hands -/
def sumTo (f : Nat → Nat) : Nat → Nat
  | 0 => 0
  | n + 1 => sumTo f n + f n
theorem sumTo_le {f g : Nat → Nat} : ∀ {n : Nat}, (∀ i, i < n → f i ≤ g i) → sumTo f n ≤ sumTo g n
  | 0, _ => Nat.le_refl _
  | n + 1, h => Nat.add_le_add (sumTo_le fun i hi => h i (by omega)) (h n (by omega))
theorem sumTo_congr {f g : Nat → Nat} {n : Nat} (h : ∀ i, i < n → f i = g i) : sumTo f n = sumTo g n :=
  Nat.le_antisymm (sumTo_le fun i hi => Nat.le_of_eq (h i hi)) (sumTo_le fun i hi => Nat.le_of_eq (h i hi).symm)
theorem sumTo_set {f g : Nat → Nat} {k : Nat} : ∀ {n : Nat}, k < n → (∀ i, i < n → i ≠ k → f i = g i) → sumTo f n + g k = sumTo g n + f k
  | 0, h, _ => by omega
  | n + 1, hk, h => by
    by_cases e : k = n
    · subst e
      have := sumTo_congr (f := f) (g := g) (n := k) fun i hi => h i (by omega) (by omega)
      show sumTo f k + f k + g k = sumTo g k + g k + f k
      omega
    · have ih := sumTo_set (f := f) (g := g) (k := k) (n := n) (by omega) fun i hi ne => h i (by omega) ne
      have := h n (by omega) (fun z => e z.symm)
      show sumTo f n + f n + g k = sumTo g n + g n + f k
      omega
theorem sumTo_const (c n : Nat) : sumTo (fun _ => c) n = n * c := by
  induction n with
  | zero => simp [sumTo]
  | succ n ih => simp [sumTo, ih, Nat.succ_mul]

/-! ### all of it -/
structure Good (W : Nat) (m : M) : Prop where
  ps : m.progs.length = m.hands.length
  ll : m.links.length = m.worths.length
  wl : m.worths.length ≤ W + sumTo (fun i => used (m.hd i)) m.hands.length
  fl : m.freed.length ≤ sumTo (fun i => (m.hd i).at_) m.hands.length
  el : m.ends.length ≤ sumTo (fun i => decd (m.prog i) (m.hd i)) m.hands.length
  count : okCount m
  hand : ∀ i, i < m.hands.length → HOk m.worths.length (m.prog i) (m.hd i)
  fr : ∀ c ∈ m.freed, 1 ≤ c ∧ c ≤ m.worths.length
  top : m.top ≤ m.worths.length
  links : ∀ c ∈ m.links, c ≤ m.worths.length

theorem M.hd_setH {m : M} {h i : Nat} {x : Hd} (hl : h < m.hands.length) : (m.setH h x).hd i = if i = h then x else m.hd i := by
  unfold M.hd M.setH
  simp only [List.getD_eq_getElem?_getD, List.getElem?_set]
  by_cases e : h = i
  · subst e
    simp [hl]
  · simp [e, Ne.symm e]
theorem M.setH_hd {m : M} {h : Nat} {x : Hd} (hl : h < m.hands.length) : (m.setH h x).hd h = x := by rw [M.hd_setH hl, if_pos rfl]
theorem M.setH_ne {m : M} {h i : Nat} {x : Hd} (hl : h < m.hands.length) (e : i ≠ h) : (m.setH h x).hd i = m.hd i := by rw [M.hd_setH hl, if_neg e]
theorem M.setH_len {m : M} {h : Nat} {x : Hd} : (m.setH h x).hands.length = m.hands.length := by simp [M.setH]
theorem M.setH_setH {m : M} {h : Nat} {x y : Hd} : (m.setH h x).setH h y = m.setH h y := by simp [M.setH, List.set_set]
theorem M.setH_self {m : M} {h : Nat} : m.setH h (m.hd h) = m := by
  unfold M.setH M.hd
  have : m.hands.set h (m.hands.getD h {}) = m.hands := by
    apply List.ext_getElem?
    intro i
    rw [List.getElem?_set]
    split
    · rename_i e
      subst e
      split
      · rename_i hl
        simp [List.getD_eq_getElem?_getD, List.getElem?_eq_getElem hl]
      · rename_i hl
        rw [List.getElem?_eq_none (by omega)]
    · rfl
  rw [this]

/-- one hand has turned: m1 is m but for its shared parts, x the hand's new self -/
theorem Good.turned {W : Nat} {m m1 : M} {h : Nat} {x : Hd} (g : Good W m) (hl : h < m.hands.length) (eh : m1.hands = m.hands) (ep : m1.progs = m.progs) (er : m1.rule = m.rule)
    (ll : m1.links.length = m1.worths.length) (wn : m.worths.length ≤ m1.worths.length) (wl : m1.worths.length + used (m.hd h) ≤ m.worths.length + used x) (fl : m1.freed.length + (m.hd h).at_ ≤ m.freed.length + x.at_)
    (el : m1.ends.length + decd (m.prog h) (m.hd h) ≤ m.ends.length + decd (m.prog h) x) (hx : HOk m1.worths.length (m.prog h) x) (fr : ∀ c ∈ m1.freed, 1 ≤ c ∧ c ≤ m1.worths.length) (top : m1.top ≤ m1.worths.length) (links : ∀ c ∈ m1.links, c ≤ m1.worths.length) :
    Good W (m1.setH h x) := by
  have hl1 : h < m1.hands.length := by rw [eh]; exact hl
  have hd1 : ∀ i, m1.hd i = m.hd i := fun i => by unfold M.hd; rw [eh]
  have hp : ∀ i, (m1.setH h x).prog i = m.prog i := fun i => by
    show m1.progs.getD i [] = m.progs.getD i []
    rw [ep]
  have hn : (m1.setH h x).hands.length = m.hands.length := by rw [M.setH_len, eh]
  have hd2 : ∀ i, i ≠ h → (m1.setH h x).hd i = m.hd i := fun i e => by rw [M.setH_ne hl1 e, hd1]
  have hd3 : (m1.setH h x).hd h = x := M.setH_hd hl1
  refine ⟨?_, ll, ?_, ?_, ?_, ?_, ?_, fr, top, links⟩
  · rw [hn]
    show m1.progs.length = _
    rw [ep]
    exact g.ps
  · rw [hn]
    have := sumTo_set (f := fun i => used ((m1.setH h x).hd i)) (g := fun i => used (m.hd i)) hl fun i _ e => by rw [hd2 i e]
    simp only [hd3] at this
    have := g.wl
    show m1.worths.length ≤ _
    omega
  · rw [hn]
    have := sumTo_set (f := fun i => ((m1.setH h x).hd i).at_) (g := fun i => (m.hd i).at_) hl fun i _ e => by rw [hd2 i e]
    simp only [hd3] at this
    have := g.fl
    show m1.freed.length ≤ _
    omega
  · rw [hn]
    have := sumTo_set (f := fun i => decd ((m1.setH h x).prog i) ((m1.setH h x).hd i)) (g := fun i => decd (m.prog i) (m.hd i)) hl fun i _ e => by rw [hd2 i e, hp]
    simp only [hd3, hp] at this ⊢
    have := g.el
    show m1.ends.length ≤ _
    omega
  · intro k hk
    exact g.count k (by rw [← er]; exact hk)
  · intro i hi
    rw [hn] at hi
    rw [hp]
    show HOk m1.worths.length _ _
    by_cases e : i = h
    · subst e
      rw [hd3]
      exact hx
    · rw [hd2 i e]
      exact (g.hand i hi).mono wn
theorem HOk.forgot {n : Nat} {p : List Deed} {x : Hd} (h : HOk n p x) (hc : p[x.at_]? = some .pop → x.cell = 0) : HOk n p x.forgot :=
  ⟨h.said, h.at_, fun e => ⟨(h.fin e).1, rfl⟩, h.cell, fun s e => (by cases e), fun s e => (by cases e), fun v s _ e => (by cases e), fun s _ e => (by cases e), fun e c => absurd (hc e) c⟩
theorem HOk.ended {n : Nat} {p : List Deed} {x : Hd} {d : Deed} (h : HOk n p x) (hd : p[x.at_]? = some d) (a : Ans) : HOk n p (x.ended a) := by
  refine ⟨?_, ?_, fun e => ⟨rfl, rfl⟩, Nat.zero_le _, fun s e => (by cases e), fun s e => (by cases e), fun v s _ e => (by cases e), fun s _ e => (by cases e), fun e c => absurd rfl c⟩
  · show (x.said ++ [a]).length = x.at_ + 1
    rw [List.length_append, h.said]
    rfl
  · have := (List.getElem?_eq_some_iff.mp hd).1
    exact this
theorem getD_le {l : List Nat} {n i : Nat} (h : ∀ c ∈ l, c ≤ n) : l.getD i 0 ≤ n := by
  rw [List.getD_eq_getElem?_getD]
  cases e : l[i]? with
  | none => exact Nat.zero_le _
  | some c => exact h c (List.mem_of_getElem? e)
theorem mem_set_le {l : List Nat} {n i t : Nat} (h : ∀ c ∈ l, c ≤ n) (ht : t ≤ n) : ∀ c ∈ l.set i t, c ≤ n := fun c hc => by
  rcases List.mem_or_eq_of_mem_set hc with z | z
  · exact h c z
  · omega
theorem used_ended {x : Hd} {a : Ans} : used (x.ended a) = x.at_ + 1 := by simp [used, Hd.ended]
theorem decd_ended {p : List Deed} {x : Hd} {a : Ans} : decd p (x.ended a) = x.at_ + 1 := by simp [decd, Hd.ended]
theorem used_lt {x : Hd} : used x ≤ x.at_ + 1 := by unfold used; split <;> omega
theorem pick_mem {r : Rule} {mk fr : List Nat} {c : Nat} (h : pick r mk fr = some c) : c ∈ fr := by
  unfold pick at h
  split at h
  · cases h
  · exact List.mem_of_find?_eq_some h

theorem used_cell (x : Hd) (c : Nat) : used { x with cell := c } = x.at_ + if c = 0 then 0 else 1 := rfl
theorem taken_some {m : M} {v : Int} {c : Nat} (h : pick m.rule m.marked m.freed = some c) : m.taken v = (c, { m with freed := m.freed.erase c, worths := m.worths.set (c - 1) v }) := by unfold M.taken; rw [h]
theorem taken_none {m : M} {v : Int} (h : pick m.rule m.marked m.freed = none) : m.taken v = (m.worths.length + 1, { m with worths := m.worths ++ [v], links := m.links ++ [0] }) := by unfold M.taken; rw [h]
theorem Good.turn {W : Nat} {m : M} {h : Nat} (g : Good W m) (hl : h < m.hands.length) : Good W (m.step h) := by
  have hx := g.hand h hl
  have self : ∀ {x : Hd}, used x = used (m.hd h) → x.at_ = (m.hd h).at_ → decd (m.prog h) x = decd (m.prog h) (m.hd h) → HOk m.worths.length (m.prog h) x → Good W (m.setH h x) := fun {x} e1 e2 e3 hx' =>
    g.turned hl rfl rfl rfl g.ll (Nat.le_refl _) (by omega) (by omega) (by omega) hx' g.fr g.top g.links
  unfold M.step M.turn
  cases hd : (m.prog h)[(m.hd h).at_]? with
  | none => exact g
  | some d =>
    have hat := (List.getElem?_eq_some_iff.mp hd).1
    cases d with
    | push v =>
      have dn : ∀ x : Hd, x.at_ = (m.hd h).at_ → decd (m.prog h) x = x.at_ := fun x e => by
        unfold decd
        rw [e, hd]
        simp
      simp only
      by_cases hc : (m.hd h).cell = 0
      · rw [if_pos hc]
        have u0 : used (m.hd h) = (m.hd h).at_ := by unfold used; rw [if_pos hc]; rfl
        have sn : (m.hd h).seen = none := by
          cases es : (m.hd h).seen with
          | none => rfl
          | some s =>
            have := hx.pushC v s hd es
            omega
        cases hp : pick m.rule m.marked m.freed with
        | some c =>
          rw [taken_some hp]
          show Good W (M.setH _ h { m.hd h with cell := c })
          have hc' := g.fr c (pick_mem hp)
          refine g.turned (m1 := { m with freed := m.freed.erase c, worths := m.worths.set (c - 1) v }) hl rfl rfl rfl (by simp [g.ll]) (by simp) ?_ ?_ ?_ ?_ ?_ (by simpa using g.top) (by simpa using g.links)
          · have e := used_cell (m.hd h) c
            rw [if_neg (by omega)] at e
            simp only [List.length_set]
            omega
          · simp only
            have := List.length_erase_le (a := c) (l := m.freed)
            omega
          · rw [dn { m.hd h with cell := c } rfl, dn (m.hd h) rfl]
            exact Nat.le_refl _
          · simp only [List.length_set]
            exact ⟨hx.said, hx.at_, fun e => absurd (hd.symm.trans e) (by simp), hc'.2, hx.seen, hx.follow, fun _ _ _ _ => hc'.1, hx.popC, fun e => absurd (hd.symm.trans e) (by simp)⟩
          · intro y hy
            have := g.fr y (List.mem_of_mem_erase hy)
            simpa using this
        | none =>
          rw [taken_none hp]
          show Good W (M.setH _ h { m.hd h with cell := m.worths.length + 1 })
          refine g.turned (m1 := { m with worths := m.worths ++ [v], links := m.links ++ [0] }) hl rfl rfl rfl (by simp [g.ll]) (by simp) ?_ ?_ ?_ ?_ ?_ ?_ ?_
          · have e := used_cell (m.hd h) (m.worths.length + 1)
            rw [if_neg (by omega)] at e
            simp only [List.length_append, List.length_singleton]
            omega
          · simp only
            omega
          · rw [dn { m.hd h with cell := m.worths.length + 1 } rfl, dn (m.hd h) rfl]
            exact Nat.le_refl _
          · simp only [List.length_append, List.length_singleton]
            have hx' := hx.mono (Nat.le_succ m.worths.length)
            exact ⟨hx.said, hx.at_, fun e => absurd (hd.symm.trans e) (by simp), Nat.le_refl _, hx'.seen, hx'.follow, fun _ _ _ _ => (by show 1 ≤ m.worths.length + 1; omega), hx.popC, fun e => absurd (hd.symm.trans e) (by simp)⟩
          · intro y hy
            have := g.fr y hy
            simp only [List.length_append, List.length_singleton]
            omega
          · have := g.top
            simp only [List.length_append, List.length_singleton]
            omega
          · intro y hy
            simp only [List.length_append, List.length_singleton]
            rcases List.mem_append.mp hy with z | z
            · have := g.links y z
              omega
            · have : y = 0 := by simpa using z
              omega
      · rw [if_neg hc]
        have u1 : used (m.hd h) = (m.hd h).at_ + 1 := by unfold used; rw [if_neg hc]
        cases es : (m.hd h).seen with
        | none =>
          simp only
          unfold M.read
          rw [if_neg (by simp)]
          refine self rfl rfl rfl ⟨hx.said, hx.at_, fun e => absurd (hd.symm.trans e) (by simp), hx.cell, fun s e => ?_, hx.follow, fun v s _ _ => (by show 1 ≤ (m.hd h).cell; omega), fun s e _ => absurd (hd.symm.trans e) (by simp), fun e => absurd (hd.symm.trans e) (by simp)⟩
          cases e
          exact g.top
        | some s =>
          simp only
          unfold M.push
          cases ef : (m.hd h).follow with
          | none =>
            simp only
            refine g.turned (m1 := { m with links := m.links.set ((m.hd h).cell - 1) s.1 }) hl rfl rfl rfl (by simp [g.ll]) (Nat.le_refl _) (Nat.le_refl _) (Nat.le_refl _) (Nat.le_refl _) ?_ g.fr g.top (mem_set_le g.links (hx.seen s es))
            exact ⟨hx.said, hx.at_, hx.fin, hx.cell, hx.seen, fun f e => (by cases e; exact hx.seen s es), hx.pushC, hx.popC, hx.popS⟩
          | some f =>
            simp only
            cases hf : m.fits h with
            | true =>
              rw [if_pos rfl]
              refine g.turned (m1 := m.exchd h (m.hd h).cell) (x := (m.hd h).ended .done) hl rfl rfl rfl g.ll (Nat.le_refl _) ?_ ?_ ?_ (hx.ended hd _) g.fr hx.cell g.links
              · rw [used_ended]
                show m.worths.length + _ ≤ m.worths.length + _
                omega
              · show m.freed.length + _ ≤ m.freed.length + ((m.hd h).at_ + 1)
                omega
              · rw [decd_ended, dn (m.hd h) rfl]
                show (m.ends ++ [_]).length + _ ≤ _
                rw [List.length_append]
                simp only [List.length_singleton]
                omega
            | false =>
              rw [if_neg (by simp)]
              exact self rfl rfl (by rw [dn (m.hd h).forgot rfl, dn (m.hd h) rfl]; rfl) (hx.forgot fun e => absurd (hd.symm.trans e) (by simp))
    | pop =>
      simp only
      cases es : (m.hd h).seen with
      | none =>
        have hc : (m.hd h).cell = 0 := by
          cases Nat.eq_zero_or_pos (m.hd h).cell with
          | inl z => exact z
          | inr z => exact absurd es (hx.popS hd (by omega))
        simp only
        unfold M.read
        by_cases ht : m.top = 0
        · rw [if_pos ⟨ht, rfl⟩]
          have u0 : used (m.hd h) = (m.hd h).at_ := by unfold used; rw [if_pos hc]; rfl
          have d0 : decd (m.prog h) (m.hd h) = (m.hd h).at_ := by unfold decd; rw [if_neg (by simp [hc])]; rfl
          refine g.turned (m1 := { m with ends := m.ends ++ [(h, (m.hd h).at_)] }) (x := (m.hd h).ended .non) hl rfl rfl rfl g.ll (Nat.le_refl _) ?_ ?_ ?_ (hx.ended hd _) g.fr g.top g.links
          · rw [used_ended]
            simp only
            omega
          · show m.freed.length + _ ≤ m.freed.length + ((m.hd h).at_ + 1)
            omega
          · rw [decd_ended]
            simp only [List.length_append, List.length_singleton]
            omega
        · rw [if_neg (fun z => ht z.1)]
          refine self rfl rfl rfl ⟨hx.said, hx.at_, fun e => absurd (hd.symm.trans e) (by simp), hx.cell, fun s e => ?_, hx.follow, fun v s e _ => absurd (hd.symm.trans e) (by simp), fun s _ e => ?_, fun _ _ => by simp⟩
          · cases e
            exact g.top
          · cases e
            show 1 ≤ m.top
            omega
      | some s =>
        simp only
        unfold M.pop
        by_cases hc : (m.hd h).cell = 0
        · rw [if_neg (fun z => z hc)]
          have u0 : used (m.hd h) = (m.hd h).at_ := by unfold used; rw [if_pos hc]; rfl
          have d0 : decd (m.prog h) (m.hd h) = (m.hd h).at_ := by unfold decd; rw [if_neg (by simp [hc])]; rfl
          have fg : Good W (m.setH h (m.hd h).forgot) := by
            refine self rfl rfl ?_ (hx.forgot fun _ => hc)
            show decd _ _ = _
            unfold decd Hd.forgot
            rfl
          split
          · unfold M.guard
            split
            · exact self rfl rfl rfl ⟨hx.said, hx.at_, hx.fin, hx.cell, hx.seen, hx.follow, hx.pushC, hx.popC, hx.popS⟩
            · split
              · exact fg
              · exact self rfl rfl rfl ⟨hx.said, hx.at_, hx.fin, hx.cell, hx.seen, hx.follow, hx.pushC, hx.popC, hx.popS⟩
          · cases ef : (m.hd h).follow with
            | none =>
              exact self rfl rfl rfl ⟨hx.said, hx.at_, hx.fin, hx.cell, hx.seen, fun f e => (by cases e; exact getD_le g.links), hx.pushC, hx.popC, hx.popS⟩
            | some f =>
              simp only
              cases hf : m.fits h with
              | true =>
                rw [if_pos rfl]
                have h1 := hx.popC s hd es
                have h2 := hx.seen s es
                refine g.turned (m1 := { m.exchd h f with strayed := m.strayed || m.links.getD (s.1 - 1) 0 != f }) (x := { m.hd h with cell := s.1 }) hl rfl rfl rfl g.ll (Nat.le_refl _) ?_ (Nat.le_refl _) ?_ ?_ g.fr (hx.follow f ef) g.links
                · have e := used_cell (m.hd h) s.1
                  rw [if_neg (by omega)] at e
                  show m.worths.length + _ ≤ m.worths.length + used { m.hd h with cell := s.1 }
                  dsimp only
                  omega
                · have : decd (m.prog h) { m.hd h with cell := s.1 } = (m.hd h).at_ + 1 := by
                    unfold decd
                    rw [if_pos ⟨hd, by show s.1 ≠ 0; omega⟩]
                  show (m.ends ++ [_]).length + _ ≤ _
                  rw [List.length_append]
                  simp only [List.length_singleton]
                  dsimp only at this ⊢
                  omega
                · exact ⟨hx.said, hx.at_, fun e => absurd (hd.symm.trans e) (by simp), h2, hx.seen, hx.follow, fun v s e _ => absurd (hd.symm.trans e) (by simp), hx.popC, fun _ _ => by show (m.hd h).seen ≠ none; rw [es]; simp⟩
              | false =>
                rw [if_neg (by simp)]
                exact fg
        · rw [if_pos hc]
          have u1 : used (m.hd h) = (m.hd h).at_ + 1 := by unfold used; rw [if_neg hc]
          have d1 : decd (m.prog h) (m.hd h) = (m.hd h).at_ + 1 := by unfold decd; rw [if_pos ⟨hd, hc⟩]
          refine g.turned (m1 := { m with freed := m.freed ++ [(m.hd h).cell] }) (x := (m.hd h).ended _) hl rfl rfl rfl g.ll (Nat.le_refl _) ?_ ?_ ?_ (hx.ended hd _) ?_ g.top g.links
          · rw [used_ended]
            simp only
            omega
          · show (m.freed ++ [_]).length + _ ≤ m.freed.length + ((m.hd h).at_ + 1)
            rw [List.length_append]
            simp only [List.length_singleton]
            omega
          · rw [decd_ended]
            simp only
            omega
          · intro y hy
            rcases List.mem_append.mp hy with z | z
            · exact g.fr y z
            · have e : y = (m.hd h).cell := by simpa using z
              have := hx.cell
              simp only
              omega
end SS

set_option linter.all false
/-! All comes to an end: a number that each step lowers. -/
namespace SS
def rank (r : Rule) (top count h : Nat) (p : List Deed) (x : Hd) : Nat :=
  match p[x.at_]? with
  | none => 0
  | some (.push _) => if x.cell = 0 then 6 else match x.seen with
    | none => 3
    | some s => (if s = (top, count) then 0 else 3) + (if x.follow = none then 2 else 1)
  | some .pop => if x.cell ≠ 0 then 1 else match x.seen with
    | none => 6
    | some s => (if s = (top, count) then 0 else 5) + (if r.named h = true ∧ x.looked = false then (if x.mark = s.1 then 4 else 5) else if x.follow = none then 3 else 2)
theorem rank_le (r : Rule) (top count h : Nat) (p : List Deed) (x : Hd) : rank r top count h p x ≤ 10 := by
  unfold rank
  split
  · omega
  · split
    · omega
    · split
      · omega
      · split <;> split <;> omega
  · split
    · omega
    · split
      · omega
      · split <;> split <;> (try split) <;> omega
def M.rk (m : M) (i : Nat) : Nat := rank m.rule m.top m.count i (m.prog i) (m.hd i)
def M.mE (m : M) : Nat := sumTo (fun i => (m.prog i).length - decd (m.prog i) (m.hd i)) m.hands.length
def M.mR (m : M) : Nat := sumTo (fun i => (m.prog i).length - (m.hd i).at_) m.hands.length
def M.mS (m : M) : Nat := sumTo m.rk m.hands.length
def M.mu (m : M) : Nat := 40 * m.mE + 10 * m.mR + m.mS

/-! what a step does to one hand, and to the rest -/
theorem step_progs (m : M) (h : Nat) : (m.step h).progs = m.progs ∧ (m.step h).rule = m.rule ∧ (m.step h).hands.length = m.hands.length ∧ ∀ i, i ≠ h → (m.step h).hd i = m.hd i := by
  have key : ∀ (m1 : M) (x : Hd), m1.progs = m.progs → m1.rule = m.rule → m1.hands = m.hands → (m1.setH h x).progs = m.progs ∧ (m1.setH h x).rule = m.rule ∧ (m1.setH h x).hands.length = m.hands.length ∧ ∀ i, i ≠ h → (m1.setH h x).hd i = m.hd i := by
    intro m1 x e1 e2 e3
    refine ⟨e1, e2, by rw [M.setH_len, e3], fun i ne => ?_⟩
    unfold M.hd M.setH
    simp only [List.getD_eq_getElem?_getD, List.getElem?_set, if_neg (Ne.symm ne), e3]
  have self : m.progs = m.progs ∧ m.rule = m.rule ∧ m.hands.length = m.hands.length ∧ ∀ i, i ≠ h → m.hd i = m.hd i := ⟨rfl, rfl, rfl, fun _ _ => rfl⟩
  unfold M.step M.turn
  split
  · exact self
  · split
    · cases hp : pick m.rule m.marked m.freed with
      | some c =>
        rw [taken_some hp]
        exact key _ _ rfl rfl rfl
      | none =>
        rw [taken_none hp]
        exact key _ _ rfl rfl rfl
    · split
      · unfold M.read
        split <;> exact key _ _ rfl rfl rfl
      · unfold M.push
        split
        · exact key _ _ rfl rfl rfl
        · split <;> exact key _ _ rfl rfl rfl
  · split
    · unfold M.read
      split <;> exact key _ _ rfl rfl rfl
    · unfold M.pop M.guard
      split
      · exact key _ _ rfl rfl rfl
      · split
        · split
          · exact key _ _ rfl rfl rfl
          · split <;> exact key _ _ rfl rfl rfl
        · split
          · exact key _ _ rfl rfl rfl
          · split <;> exact key _ _ rfl rfl rfl
theorem step_prog (m : M) (h i : Nat) : (m.step h).prog i = m.prog i := by unfold M.prog; rw [(step_progs m h).1]

theorem sumTo_lt {f g : Nat → Nat} {n k : Nat} (hk : k < n) (h : ∀ i, i < n → i ≠ k → f i = g i) (l : f k < g k) : sumTo f n < sumTo g n := by
  have := sumTo_set hk h
  omega
theorem sumTo_same {f g : Nat → Nat} {n k : Nat} (hk : k < n) (h : ∀ i, i < n → i ≠ k → f i = g i) (l : f k = g k) : sumTo f n = sumTo g n := by
  have := sumTo_set hk h
  omega
theorem mS_le (m : M) : m.mS ≤ 10 * m.hands.length := by
  have : m.mS ≤ sumTo (fun _ => 10) m.hands.length := sumTo_le fun i _ => rank_le ..
  rw [sumTo_const] at this
  omega

/-- the three ways in which a step goes down -/
inductive Down (m m' : M) (h : Nat) : Prop where
  | decides (h1 : decd (m.prog h) (m'.hd h) = decd (m.prog h) (m.hd h) + 1) (h2 : (m.hd h).at_ ≤ (m'.hd h).at_) (h3 : decd (m.prog h) (m.hd h) < (m.prog h).length)
  | ends (h1 : decd (m.prog h) (m'.hd h) = decd (m.prog h) (m.hd h)) (h2 : (m'.hd h).at_ = (m.hd h).at_ + 1) (h3 : (m.hd h).at_ < (m.prog h).length) (t : m'.top = m.top) (c : m'.count = m.count) (r : m.rk h = 1) (r' : rank m.rule m.top m.count h (m.prog h) (m'.hd h) ≤ 6)
  | goes (h1 : decd (m.prog h) (m'.hd h) = decd (m.prog h) (m.hd h)) (h2 : (m'.hd h).at_ = (m.hd h).at_) (t : m'.top = m.top) (c : m'.count = m.count) (r : rank m.rule m.top m.count h (m.prog h) (m'.hd h) < m.rk h)
theorem Down.mu {m : M} {h : Nat} (d : Down m (m.step h) h) (hl : h < m.hands.length) (h3 : m.hands.length ≤ 3) : (m.step h).mu < m.mu := by
  obtain ⟨e1, e2, e3, e4⟩ := step_progs m h
  have ep := step_prog m h
  have hs := mS_le (m.step h)
  rw [e3] at hs
  cases d with
  | decides a b c =>
    have E : (m.step h).mE < m.mE := by
      unfold M.mE
      rw [e3]
      refine sumTo_lt hl (fun i _ ne => by rw [ep, e4 i ne]) ?_
      simp only [ep]
      omega
    have Rr : (m.step h).mR ≤ m.mR := by
      unfold M.mR
      rw [e3]
      refine sumTo_le fun i _ => ?_
      rw [ep]
      by_cases e : i = h
      · subst e
        omega
      · rw [e4 i e]
        exact Nat.le_refl _
    unfold M.mu
    omega
  | ends a b c t k r r' =>
    have E : (m.step h).mE = m.mE := by
      unfold M.mE
      rw [e3]
      refine sumTo_same hl (fun i _ ne => by rw [ep, e4 i ne]) ?_
      simp only [ep]
      omega
    have Rr : (m.step h).mR < m.mR := by
      unfold M.mR
      rw [e3]
      refine sumTo_lt hl (fun i _ ne => by rw [ep, e4 i ne]) ?_
      simp only [ep]
      omega
    have S := sumTo_set (f := (m.step h).rk) (g := m.rk) hl fun i _ ne => by
      unfold M.rk
      rw [ep, e4 i ne, t, k, e2]
    have r2 : (m.step h).rk h ≤ 6 := by
      unfold M.rk
      rw [ep, t, k, e2]
      exact r'
    unfold M.mu M.mS
    rw [e3]
    omega
  | goes a b t k r =>
    have E : (m.step h).mE = m.mE := by
      unfold M.mE
      rw [e3]
      refine sumTo_same hl (fun i _ ne => by rw [ep, e4 i ne]) ?_
      simp only [ep]
      omega
    have Rr : (m.step h).mR = m.mR := by
      unfold M.mR
      rw [e3]
      refine sumTo_same hl (fun i _ ne => by rw [ep, e4 i ne]) ?_
      simp only [ep]
      omega
    have S : (m.step h).mS < m.mS := by
      unfold M.mS
      rw [e3]
      refine sumTo_lt hl (fun i _ ne => ?_) ?_
      · unfold M.rk
        rw [ep, e4 i ne, t, k, e2]
      · unfold M.rk
        rw [ep, t, k, e2]
        exact r
    unfold M.mu
    omega
theorem Down.goes' {m m1 : M} {h : Nat} {x : Hd} (hl : h < m.hands.length) (e : m1.hands = m.hands) (h1 : decd (m.prog h) x = decd (m.prog h) (m.hd h)) (h2 : x.at_ = (m.hd h).at_) (t : m1.top = m.top) (c : m1.count = m.count)
    (r : rank m.rule m.top m.count h (m.prog h) x < m.rk h) : Down m (m1.setH h x) h := by
  have hx : (m1.setH h x).hd h = x := M.setH_hd (by rw [e]; exact hl)
  exact .goes (by rw [hx]; exact h1) (by rw [hx]; exact h2) t c (by rw [hx]; exact r)
theorem Down.decides' {m m1 : M} {h : Nat} {x : Hd} (hl : h < m.hands.length) (e : m1.hands = m.hands) (h1 : decd (m.prog h) x = decd (m.prog h) (m.hd h) + 1) (h2 : (m.hd h).at_ ≤ x.at_) (h3 : decd (m.prog h) (m.hd h) < (m.prog h).length) : Down m (m1.setH h x) h := by
  have hx : (m1.setH h x).hd h = x := M.setH_hd (by rw [e]; exact hl)
  exact .decides (by rw [hx]; exact h1) (by rw [hx]; exact h2) h3
theorem Down.ends' {m m1 : M} {h : Nat} {x : Hd} (hl : h < m.hands.length) (e : m1.hands = m.hands) (h1 : decd (m.prog h) x = decd (m.prog h) (m.hd h)) (h2 : x.at_ = (m.hd h).at_ + 1) (h3 : (m.hd h).at_ < (m.prog h).length) (t : m1.top = m.top) (c : m1.count = m.count)
    (r : m.rk h = 1) (r' : rank m.rule m.top m.count h (m.prog h) x ≤ 6) : Down m (m1.setH h x) h := by
  have hx : (m1.setH h x).hd h = x := M.setH_hd (by rw [e]; exact hl)
  exact .ends (by rw [hx]; exact h1) (by rw [hx]; exact h2) h3 t c r (by rw [hx]; exact r')
theorem rank_new {r : Rule} {top count h : Nat} {p : List Deed} {x : Hd} {a : Ans} : rank r top count h p (x.ended a) ≤ 6 := by
  unfold rank Hd.ended
  simp only
  split
  · omega
  · simp
  · simp
theorem down {m : M} {h : Nat} (hl : h < m.hands.length) (hfr : ∀ c ∈ m.freed, 1 ≤ c) (hr : m.rests h = false) (hx : HOk m.worths.length (m.prog h) (m.hd h)) : Down m (m.step h) h := by
  have ne : (m.hd h).at_ ≠ (m.prog h).length := by
    unfold M.rests at hr
    simpa using hr
  have hat : (m.hd h).at_ < (m.prog h).length := by have := hx.at_; omega
  have hd : (m.prog h)[(m.hd h).at_]? = some (m.prog h)[(m.hd h).at_] := List.getElem?_eq_getElem hat
  generalize (m.prog h)[(m.hd h).at_] = d at hd
  have put : ∀ (m1 : M) (x : Hd), m1.hands = m.hands → (m1.setH h x).hd h = x := fun m1 x e => M.setH_hd (by rw [e]; exact hl)
  unfold M.step M.turn
  rw [hd]
  cases d with
  | push v =>
    have dn : ∀ x : Hd, x.at_ = (m.hd h).at_ → decd (m.prog h) x = x.at_ := fun x e => by
      unfold decd
      rw [e, hd]
      simp
    simp only
    by_cases hc : (m.hd h).cell = 0
    · rw [if_pos hc]
      have goal : ∀ (m1 : M) (c : Nat), c ≠ 0 → m1.hands = m.hands → m1.top = m.top → m1.count = m.count → Down m (m1.setH h { m.hd h with cell := c }) h := by
        intro m1 c hc' e1 e2 e3
        refine .goes' hl e1 ?_ ?_ e2 e3 ?_
        · exact (dn { m.hd h with cell := c } rfl).trans (dn (m.hd h) rfl).symm
        · rfl
        · unfold M.rk rank
          simp only [hd, if_pos hc, if_neg hc']
          split
          · omega
          · split <;> split <;> omega
      cases hp : pick m.rule m.marked m.freed with
      | some c =>
        rw [taken_some hp]
        by_cases c0 : c = 0
        · have := hfr c (pick_mem hp)
          omega
        · exact goal _ c c0 rfl rfl rfl
      | none =>
        rw [taken_none hp]
        exact goal _ _ (by omega) rfl rfl rfl
    · rw [if_neg hc]
      cases es : (m.hd h).seen with
      | none =>
        simp only
        unfold M.read
        rw [if_neg (by simp)]
        refine .goes' hl rfl ?_ ?_ rfl rfl ?_
        · exact (dn _ rfl).trans (dn (m.hd h) rfl).symm
        · rfl
        · unfold M.rk rank
          simp only [hd, if_neg hc, es, if_true]
          split <;> omega
      | some s =>
        simp only
        unfold M.push
        cases ef : (m.hd h).follow with
        | none =>
          simp only
          refine .goes' hl rfl ?_ ?_ rfl rfl ?_
          · exact (dn _ rfl).trans (dn (m.hd h) rfl).symm
          · rfl
          · unfold M.rk rank
            simp only [hd, if_neg hc, es, ef, if_true]
            simp
        | some f =>
          simp only
          cases hf : m.fits h with
          | true =>
            rw [if_pos rfl]
            refine .decides' hl rfl ?_ ?_ ?_
            · rw [decd_ended, dn (m.hd h) rfl]
              rfl
            · show _ ≤ (m.hd h).at_ + 1
              omega
            · rw [dn (m.hd h) rfl]
              exact hat
          | false =>
            rw [if_neg (by simp)]
            refine .goes' hl rfl ?_ ?_ rfl rfl ?_
            · exact (dn (m.hd h).forgot rfl).trans (dn (m.hd h) rfl).symm
            · rfl
            · have ns : ¬ (s = (m.top, m.count)) := fun e => by
                unfold M.fits at hf
                rw [es, e] at hf
                simp at hf
              unfold M.rk rank Hd.forgot
              simp only [hd, if_neg hc, es, ef, if_neg ns]
              simp
  | pop =>
    simp only
    cases es : (m.hd h).seen with
    | none =>
      have hc : (m.hd h).cell = 0 := by
        cases Nat.eq_zero_or_pos (m.hd h).cell with
        | inl z => exact z
        | inr z => exact absurd es (hx.popS hd (by omega))
      have d0 : decd (m.prog h) (m.hd h) = (m.hd h).at_ := by unfold decd; rw [if_neg (by simp [hc])]; rfl
      simp only
      unfold M.read
      by_cases ht : m.top = 0
      · rw [if_pos ⟨ht, rfl⟩]
        refine .decides' hl rfl ?_ ?_ ?_
        · rw [decd_ended, d0]
          rfl
        · show _ ≤ (m.hd h).at_ + 1
          omega
        · rw [d0]
          exact hat
      · rw [if_neg (fun z => ht z.1)]
        refine .goes' hl rfl ?_ ?_ rfl rfl ?_
        · rfl
        · rfl
        · unfold M.rk rank
          simp only [hd, hc, es, if_true, ne_eq, not_true_eq_false, if_false]
          split <;> (try split) <;> omega
    | some s =>
      simp only
      unfold M.pop
      by_cases hc : (m.hd h).cell = 0
      · rw [if_neg (fun z => z hc)]
        have d0 : decd (m.prog h) (m.hd h) = (m.hd h).at_ := by unfold decd; rw [if_neg (by simp [hc])]; rfl
        have fg : (¬ s = (m.top, m.count)) → Down m (m.setH h (m.hd h).forgot) h := fun ns => by
          refine .goes' hl rfl ?_ ?_ rfl rfl ?_
          · rfl
          · rfl
          · unfold M.rk rank Hd.forgot
            simp only [hd, hc, es, if_neg ns, ne_eq, not_true_eq_false, if_false]
            split <;> (try split) <;> omega
        split
        · rename_i hn
          unfold M.guard
          split
          · rename_i hm
            refine .goes' hl rfl ?_ ?_ rfl rfl ?_
            · rfl
            · rfl
            · unfold M.rk rank
              simp only [hd, hc, es, if_pos hn, if_neg hm, ne_eq, not_true_eq_false, if_false, if_true]
              omega
          · rename_i hm
            split
            · rename_i ht
              refine fg fun e => ht ?_
              rw [e]
            · refine .goes' hl rfl ?_ ?_ rfl rfl ?_
              · rfl
              · rfl
              · have hm' : (m.hd h).mark = s.1 := by simpa using hm
                unfold M.rk rank
                simp only [hd, hc, es, if_pos hn, if_pos hm', ne_eq, not_true_eq_false, if_false]
                simp only [Bool.true_eq_false, and_false, if_false]
                split <;> split <;> omega
        · rename_i hn
          cases ef : (m.hd h).follow with
          | none =>
            simp only
            refine .goes' hl rfl ?_ ?_ rfl rfl ?_
            · rfl
            · rfl
            · unfold M.rk rank
              simp only [hd, hc, es, ef, if_neg hn, ne_eq, not_true_eq_false, if_false, if_true]
              simp
          | some f =>
            simp only
            cases hf : m.fits h with
            | true =>
              rw [if_pos rfl]
              have h1 := hx.popC s hd es
              refine .decides' hl rfl ?_ ?_ ?_
              · rw [d0]
                unfold decd
                rw [if_pos ⟨hd, by show s.1 ≠ 0; omega⟩]
              · exact Nat.le_refl _
              · rw [d0]
                exact hat
            | false =>
              rw [if_neg (by simp)]
              exact fg fun e => by
                unfold M.fits at hf
                rw [es, e] at hf
                simp at hf
      · rw [if_pos hc]
        have d1 : decd (m.prog h) (m.hd h) = (m.hd h).at_ + 1 := by unfold decd; rw [if_pos ⟨hd, hc⟩]
        refine .ends' hl rfl ?_ ?_ hat rfl rfl ?_ ?_
        · rw [decd_ended, d1]
          rfl
        · rfl
        · unfold M.rk rank
          simp only [hd, if_pos hc]
        · exact rank_new

theorem Good.mu_lt {W : Nat} {m : M} {h : Nat} (g : Good W m) (hl : h < m.hands.length) (h3 : m.hands.length ≤ 3) (hr : m.rests h = false) : (m.step h).mu < m.mu :=
  (down hl (fun c hc => (g.fr c hc).1) hr (g.hand h hl)).mu hl h3
theorem step_rests {m : M} {h : Nat} (hr : m.rests h = true) : m.turn h = (.rests, m) := by
  unfold M.rests at hr
  have : (m.hd h).at_ = (m.prog h).length := eq_of_beq hr
  unfold M.turn
  rw [this, List.getElem?_eq_none (Nat.le_refl _)]
theorem Good.mu_le {W : Nat} {m : M} {h : Nat} (g : Good W m) (hl : h < m.hands.length) (h3 : m.hands.length ≤ 3) : (m.step h).mu ≤ m.mu := by
  cases hr : m.rests h with
  | true =>
    unfold M.step
    rw [step_rests hr]
    exact Nat.le_refl _
  | false => exact Nat.le_of_lt (g.mu_lt hl h3 hr)
/-- hands that play these programs by this rule -/
structure Fine (ps : List (List Deed)) (r : Rule) (m : M) : Prop where
  good : Good 6 m
  progs : m.progs = ps
  rule : m.rule = r
  plen : ps.length ≤ 3
  dlen : ∀ p ∈ ps, p.length ≤ 4
theorem Fine.hn {ps : List (List Deed)} {r : Rule} {m : M} (f : Fine ps r m) : m.hands.length = ps.length := by rw [← f.good.ps, f.progs]
theorem Fine.step {ps : List (List Deed)} {r : Rule} {m : M} {h : Nat} (f : Fine ps r m) (hl : h < ps.length) : Fine ps r (m.step h) := by
  obtain ⟨e1, e2, e3, e4⟩ := step_progs m h
  exact ⟨f.good.turn (by rw [f.hn]; exact hl), e1.trans f.progs, e2.trans f.rule, f.plen, f.dlen⟩
theorem getD_len {ps : List (List Deed)} (h : ∀ p ∈ ps, p.length ≤ 4) (i : Nat) : (ps.getD i []).length ≤ 4 := by
  rw [List.getD_eq_getElem?_getD]
  cases e : ps[i]? with
  | none => exact Nat.zero_le _
  | some p => exact h p (List.mem_of_getElem? e)
theorem Fine.bound {ps : List (List Deed)} {r : Rule} {m : M} (f : Fine ps r m) (g : Nat → Nat) (hg : ∀ i, i < m.hands.length → g i ≤ (m.prog i).length) : sumTo g m.hands.length ≤ 12 := by
  have h1 : sumTo g m.hands.length ≤ sumTo (fun _ => 4) m.hands.length := sumTo_le fun i hi => Nat.le_trans (hg i hi) (by
    unfold M.prog
    rw [f.progs]
    exact getD_len f.dlen i)
  rw [sumTo_const] at h1
  have := f.hn
  have := f.plen
  omega
theorem Fine.hand {ps : List (List Deed)} {r : Rule} {m : M} (f : Fine ps r m) (i : Nat) : HOk m.worths.length (m.prog i) (m.hd i) := by
  by_cases hi : i < m.hands.length
  · exact f.good.hand i hi
  · have e1 : m.hd i = {} := by
      unfold M.hd
      rw [List.getD_eq_getElem?_getD, List.getElem?_eq_none (by omega)]
      rfl
    have e2 : m.prog i = [] := by
      unfold M.prog
      rw [List.getD_eq_getElem?_getD, List.getElem?_eq_none (by rw [f.good.ps]; omega)]
      rfl
    rw [e1, e2]
    exact ⟨rfl, Nat.le_refl _, fun _ => ⟨rfl, rfl⟩, Nat.zero_le _, fun s e => (by cases e), fun s e => (by cases e), fun v s e => (by cases e), fun s e => (by cases e), fun e => (by cases e)⟩
theorem Fine.wn {ps : List (List Deed)} {r : Rule} {m : M} (f : Fine ps r m) : m.worths.length ≤ 18 := by
  have h1 := f.good.wl
  have h2 := f.bound (fun i => used (m.hd i)) fun i _ => (f.hand i).used_le
  omega
theorem Fine.wf {ps : List (List Deed)} {r : Rule} {m : M} (f : Fine ps r m) : Wf m := by
  have g := f.good
  have hn := f.hn
  have h3 := f.plen
  have hw := f.wn
  have h4 := f.bound (fun i => (m.hd i).at_) fun i _ => (f.hand i).at_
  have h5 := f.bound (fun i => decd (m.prog i) (m.hd i)) fun i _ => (f.hand i).dec_le
  have hf := g.fl
  have he := g.el
  refine ⟨g.ps, by omega, by omega, g.ll, by omega, by omega, g.count, fun h => ?_, fun h => (f.hand h).at_, g.fr, fun h => (f.hand h).cell, fun h => (f.hand h).pushC, fun h s e1 e2 => ⟨(f.hand h).popC s e1 e2, (f.hand h).seen s e2⟩⟩
  have h6 := (f.hand h).said
  have h7 := (f.hand h).at_
  have h8 : (m.prog h).length ≤ 4 := by
    unfold M.prog
    rw [f.progs]
    exact getD_len f.dlen h
  omega
theorem Fine.pile {ps : List (List Deed)} {r : Rule} {m : M} (f : Fine ps r m) : PileOk m := by
  have g := f.good
  have hw := f.wn
  exact ⟨by omega, g.ll, by rw [g.ll]; exact g.top, fun c hc => by rw [g.ll]; exact g.links c hc⟩
theorem Fine.begin_ {values : List Int} {ps : List (List Deed)} {r : Rule} (ok : okIn values ps r) : Fine ps r (M.begin_ values ps r) := by
  have hd : ∀ i, (M.begin_ values ps r).hd i = {} := fun i => by
    unfold M.hd M.begin_
    simp only [List.getD_eq_getElem?_getD, List.getElem?_map]
    cases ps[i]? <;> rfl
  refine ⟨⟨by simp [M.begin_], by simp [M.begin_], ?_, by simp [M.begin_], by simp [M.begin_], ?_, fun i _ => ?_, by simp [M.begin_], by simp [M.begin_], ?_⟩, rfl, rfl, ok.plen.2, ok.dlen⟩
  · have := ok.vlen
    show values.length ≤ _
    omega
  · intro k hk
    have e : r = .counts k := hk
    have := ok.rule
    rw [e] at this
    exact this.1
  · rw [hd]
    exact ⟨rfl, Nat.zero_le _, fun _ => ⟨rfl, rfl⟩, Nat.zero_le _, fun s e => (by cases e), fun s e => (by cases e), fun v s _ e => (by cases e), fun s _ e => (by cases e), fun _ e => absurd rfl e⟩
  · intro c hc
    have : c ∈ List.range values.length := hc
    have := List.mem_range.mp this
    show c ≤ values.length
    omega
theorem Fine.run {ps : List (List Deed)} {r : Rule} : ∀ {w : List Nat} {m : M}, Fine ps r m → (∀ h ∈ w, h < ps.length) → Fine ps r (m.run w)
  | [], m, f, _ => f
  | h :: w, m, f, hw => Fine.run (w := w) (f.step (hw h List.mem_cons_self)) fun x hx => hw x (List.mem_cons_of_mem _ hx)

/-! ### whole weavings; deeds one after another -/
def M.tells (m : M) : List Nat → List Tell
  | [] => []
  | h :: w => (m.turn h).1 :: (m.step h).tells w
def M.round (m : M) : M := m.run (List.range m.hands.length)
def M.finish : Nat → M → M
  | 0, m => m
  | n + 1, m => if m.isDone = true then m else M.finish n m.round
def wholeM (values : List Int) (ps : List (List Deed)) (r : Rule) (w : List Nat) : M := M.finish 1000 ((M.begin_ values ps r).run w)
def serialStep (z : List Ans × List Int) (d : Deed) : List Ans × List Int :=
  match d with
  | .push v => (z.1 ++ [.done], z.2 ++ [v])
  | .pop => match z.2.getLast? with
    | none => (z.1 ++ [.non], z.2)
    | some v => (z.1 ++ [.val v], z.2.dropLast)
def serial (values : List Int) (ds : List Deed) : List Ans × List Int := ds.foldl serialStep ([], values)
theorem serial_len : ∀ (ds : List Deed) (z : List Ans × List Int), (ds.foldl serialStep z).1.length = z.1.length + ds.length ∧ (ds.foldl serialStep z).2.length ≤ z.2.length + ds.length
  | [], z => ⟨rfl, Nat.le_refl _⟩
  | d :: ds, z => by
    obtain ⟨h1, h2⟩ := serial_len ds (serialStep z d)
    have e : (serialStep z d).1.length = z.1.length + 1 ∧ (serialStep z d).2.length ≤ z.2.length + 1 := by
      unfold serialStep
      cases d with
      | push v => simp
      | pop =>
        cases z.2.getLast? with
        | none => simp
        | some v => simp; omega
    simp only [List.foldl_cons, List.length_cons]
    omega
theorem run_append (m : M) (a b : List Nat) : m.run (a ++ b) = (m.run a).run b := List.foldl_append ..
theorem run_snoc (m : M) (a : List Nat) (h : Nat) : m.run (a ++ [h]) = (m.run a).step h := by rw [run_append]; rfl
theorem tells_snoc (h : Nat) : ∀ (a : List Nat) (m : M), m.tells (a ++ [h]) = m.tells a ++ [((m.run a).turn h).1]
  | [], m => rfl
  | x :: a, m => congrArg ((m.turn x).1 :: ·) (tells_snoc h a (m.step x))
theorem tells_len : ∀ (a : List Nat) (m : M), (m.tells a).length = a.length
  | [], m => rfl
  | x :: a, m => congrArg (· + 1) (tells_len a (m.step x))
theorem Fine.run_mu {ps : List (List Deed)} {r : Rule} : ∀ {w : List Nat} {m : M}, Fine ps r m → (∀ h ∈ w, h < ps.length) → (m.run w).mu ≤ m.mu
  | [], m, f, _ => Nat.le_refl _
  | h :: w, m, f, hw => by
    have h1 := hw h List.mem_cons_self
    have := Fine.run_mu (w := w) (f.step h1) fun x hx => hw x (List.mem_cons_of_mem _ hx)
    have := f.good.mu_le (h := h) (by rw [f.hn]; exact h1) (by rw [f.hn]; exact f.plen)
    show ((m.step h).run w).mu ≤ _
    omega
theorem Fine.run_lt {ps : List (List Deed)} {r : Rule} : ∀ {w : List Nat} {m : M}, Fine ps r m → (∀ h ∈ w, h < ps.length) → (∃ h ∈ w, m.rests h = false) → (m.run w).mu < m.mu
  | [], m, f, _, ⟨h, hh, _⟩ => by cases hh
  | h :: w, m, f, hw, ⟨x, hx, hr⟩ => by
    have h1 := hw h List.mem_cons_self
    have hw' : ∀ x ∈ w, x < ps.length := fun x hx => hw x (List.mem_cons_of_mem _ hx)
    have l3 : m.hands.length ≤ 3 := by rw [f.hn]; exact f.plen
    have hl : h < m.hands.length := by rw [f.hn]; exact h1
    show ((m.step h).run w).mu < _
    have a := Fine.run_mu (f.step h1) hw'
    cases e : m.rests h with
    | false =>
      have := f.good.mu_lt hl l3 e
      omega
    | true =>
      have ne : x ≠ h := fun z => by rw [z, e] at hr; cases hr
      have hx' : x ∈ w := by
        rcases List.mem_cons.mp hx with z | z
        · exact absurd z ne
        · exact z
      have es : m.step h = m := by
        unfold M.step
        rw [step_rests e]
      rw [es]
      exact Fine.run_lt f hw' ⟨x, hx', hr⟩
theorem Fine.round_lt {ps : List (List Deed)} {r : Rule} {m : M} (f : Fine ps r m) (h : m.isDone = false) : m.round.mu < m.mu := by
  refine f.run_lt (fun h hh => by rw [← f.hn]; exact List.mem_range.mp hh) ?_
  unfold M.isDone at h
  have : ¬ (List.range m.hands.length).all m.rests = true := by rw [h]; exact Bool.false_ne_true
  rw [List.all_eq_true] at this
  apply Classical.byContradiction
  intro n
  refine this fun x hx => ?_
  cases e : m.rests x with
  | true => rfl
  | false => exact absurd ⟨x, hx, e⟩ n
theorem Fine.round {ps : List (List Deed)} {r : Rule} {m : M} (f : Fine ps r m) : Fine ps r m.round := f.run fun h hh => by rw [← f.hn]; exact List.mem_range.mp hh
theorem Fine.mu_le {ps : List (List Deed)} {r : Rule} {m : M} (f : Fine ps r m) : m.mu < 1000 := by
  have h1 := f.bound (fun i => (m.prog i).length - decd (m.prog i) (m.hd i)) fun i _ => Nat.sub_le _ _
  have h2 := f.bound (fun i => (m.prog i).length - (m.hd i).at_) fun i _ => Nat.sub_le _ _
  have h3 := mS_le m
  have h4 := f.hn
  have h5 := f.plen
  unfold M.mu M.mE M.mR
  omega
theorem finish_done {m : M} (h : m.isDone = true) : ∀ n, M.finish n m = m
  | 0 => rfl
  | n + 1 => by
    unfold M.finish
    rw [if_pos h]
theorem finish_step {m : M} {n : Nat} (h : m.isDone = false) : M.finish (n + 1) m = M.finish n m.round := by
  conv => lhs; unfold M.finish
  rw [h, if_neg Bool.false_ne_true]
theorem Fine.finish {ps : List (List Deed)} {r : Rule} : ∀ {n : Nat} {m : M}, Fine ps r m → m.mu < n → Fine ps r (M.finish n m) ∧ (M.finish n m).isDone = true
  | 0, m, f, h => by omega
  | n + 1, m, f, h => by
    cases e : m.isDone with
    | true =>
      rw [finish_done e]
      exact ⟨f, e⟩
    | false =>
      rw [finish_step e]
      have := f.round_lt e
      exact Fine.finish f.round (by omega)
end SS

set_option linter.all false
/-! One hand does a whole deed, all others wait: the pile as a list of cells. -/
namespace SS
/-- the cells of the pile, the top first -/
def chain (links : List Nat) : Nat → List Nat → Prop
  | t, [] => t = 0
  | t, c :: p => t = c ∧ c ≠ 0 ∧ chain links (links.getD (c - 1) 0) p
theorem chain_zero {links : List Nat} {p : List Nat} (h : chain links 0 p) : p = [] := by
  cases p with
  | nil => rfl
  | cons c p =>
    obtain ⟨e, n, _⟩ := h
    exact absurd e.symm n
theorem chain_set {links : List Nat} {c t : Nat} (h0 : c ≠ 0) : ∀ {p : List Nat} {x : Nat}, chain links x p → c ∉ p → (∀ d ∈ p, d ≠ 0) → chain (links.set (c - 1) t) x p
  | [], x, h, _, _ => h
  | d :: p, x, h, n, z => by
    obtain ⟨e, d0, k⟩ := h
    have nd : d ≠ c := fun e => n (e ▸ List.mem_cons_self)
    refine ⟨e, d0, ?_⟩
    have e2 : (links.set (c - 1) t).getD (d - 1) 0 = links.getD (d - 1) 0 := by
      simp only [List.getD_eq_getElem?_getD, List.getElem?_set]
      rw [if_neg (by omega)]
    rw [e2]
    exact chain_set h0 k (fun h => n (List.mem_cons_of_mem _ h)) fun x hx => z x (List.mem_cons_of_mem _ hx)
theorem chain_grow {links : List Nat} {t : Nat} : ∀ {p : List Nat} {x : Nat}, chain links x p → (∀ d ∈ p, 1 ≤ d ∧ d ≤ links.length) → chain (links ++ [t]) x p
  | [], x, h, _ => h
  | d :: p, x, h, z => by
    obtain ⟨e, d0, k⟩ := h
    refine ⟨e, d0, ?_⟩
    have hd := z d List.mem_cons_self
    have e2 : (links ++ [t]).getD (d - 1) 0 = links.getD (d - 1) 0 := by
      simp only [List.getD_eq_getElem?_getD]
      rw [List.getElem?_append_left (by omega)]
    rw [e2]
    exact chain_grow k fun x hx => z x (List.mem_cons_of_mem _ hx)
theorem pileFrom_chain {links : List Nat} : ∀ (n : Nat) {p found : List Nat} {x : Nat}, chain links x p → (found ++ p).Nodup → p.length < n → M.pileFrom links n found x = found ++ p
  | 0, p, found, x, _, _, h => by omega
  | n + 1, [], found, x, h, _, _ => by
    have e : x = 0 := h
    unfold M.pileFrom
    rw [if_pos (.inl e), List.append_nil]
  | n + 1, c :: p, found, x, h, nd, l => by
    obtain ⟨rfl, c0, k⟩ := h
    unfold M.pileFrom
    have nf : x ∉ found := fun hm => by
      have := (List.nodup_append.mp nd).2.2 x hm x List.mem_cons_self
      exact this rfl
    rw [if_neg (fun z => z.elim c0 nf)]
    have := pileFrom_chain n (p := p) (found := found ++ [x]) k (by rw [List.append_assoc]; exact nd) (by simp only [List.length_cons] at l; omega)
    rw [this, List.append_assoc]
    rfl
theorem nodup_len : ∀ (n : Nat) {l : List Nat}, l.Nodup → (∀ x ∈ l, 1 ≤ x ∧ x ≤ n) → l.length ≤ n
  | 0, l, _, h => by
    cases l with
    | nil => exact Nat.le_refl _
    | cons a l =>
      have := h a List.mem_cons_self
      omega
  | n + 1, l, nd, h => by
    by_cases e : n + 1 ∈ l
    · have h1 := nodup_len n (l := l.erase (n + 1)) (nd.erase _) fun x hx => by
        have h2 := (nd.mem_erase_iff).mp hx
        have h3 := h x h2.2
        have := h2.1
        omega
      rw [List.length_erase_of_mem e] at h1
      have : 0 < l.length := List.length_pos_of_mem e
      omega
    · have := nodup_len n nd fun x hx => by
        have h3 := h x hx
        have : x ≠ n + 1 := fun z => e (z ▸ hx)
        omega
      omega
/-- a hand that has begun nothing -/
def Hd.fresh (x : Hd) : Prop := x.cell = 0 ∧ x.seen = none ∧ x.follow = none ∧ x.mark = 0 ∧ x.looked = false
structure Calm (m : M) (p : List Nat) : Prop where
  ch : chain m.links m.top p
  nd : p.Nodup
  inn : ∀ c ∈ p, 1 ≤ c ∧ c ≤ m.worths.length
  ll : m.links.length = m.worths.length
  fr : ∀ c ∈ m.freed, 1 ≤ c ∧ c ≤ m.worths.length ∧ c ∉ p
  fd : m.freed.Nodup
  fresh : ∀ h, (m.hd h).fresh
  calm : m.strayed = false
theorem Calm.len {m : M} {p : List Nat} (c : Calm m p) : p.length ≤ m.worths.length := by
  exact nodup_len _ c.nd c.inn
theorem Calm.pile {m : M} {p : List Nat} (c : Calm m p) : m.pile = p := by
  unfold M.pile
  have := c.len
  have := c.ll
  rw [pileFrom_chain _ c.ch (by rw [List.nil_append]; exact c.nd) (by omega)]
  rfl
theorem Calm.values {m : M} {p : List Nat} (c : Calm m p) : m.pileValues = p.map fun x => m.worths.getD (x - 1) 0 := by
  unfold M.pileValues
  rw [c.pile]

/-! ### single turns, told -/
section
variable {m : M} {h : Nat}
theorem turn_pop {s : Nat × Nat} (hd : (m.prog h)[(m.hd h).at_]? = some .pop) (hs : (m.hd h).seen = some s) : m.turn h = m.pop h s.1 := by
  unfold M.turn
  rw [hd]
  simp only [hs]
theorem turn_push {v : Int} {s : Nat × Nat} (hd : (m.prog h)[(m.hd h).at_]? = some (.push v)) (hc : (m.hd h).cell ≠ 0) (hs : (m.hd h).seen = some s) : m.turn h = m.push h s.1 := by
  unfold M.turn
  rw [hd]
  simp only [if_neg hc, hs]
theorem turn_readP (hd : (m.prog h)[(m.hd h).at_]? = some .pop) (hs : (m.hd h).seen = none) : m.turn h = m.read h .pop := by
  unfold M.turn
  rw [hd]
  simp only [hs]
theorem turn_readQ {v : Int} (hd : (m.prog h)[(m.hd h).at_]? = some (.push v)) (hc : (m.hd h).cell ≠ 0) (hs : (m.hd h).seen = none) : m.turn h = m.read h (.push v) := by
  unfold M.turn
  rw [hd]
  simp only [if_neg hc, hs]
theorem turn_takes {v : Int} (hd : (m.prog h)[(m.hd h).at_]? = some (.push v)) (hc : (m.hd h).cell = 0) : m.turn h = (.takes (m.taken v).1, (m.taken v).2.setH h { m.hd h with cell := (m.taken v).1 }) := by
  unfold M.turn
  rw [hd]
  exact if_pos hc
theorem turn_reads_push {v : Int} (hd : (m.prog h)[(m.hd h).at_]? = some (.push v)) (hc : (m.hd h).cell ≠ 0) (hs : (m.hd h).seen = none) : m.turn h = (.reads m.top, m.setH h { m.hd h with seen := some (m.top, m.count) }) := by
  rw [turn_readQ hd hc hs]
  unfold M.read
  rw [if_neg (fun z => by cases z.2)]
theorem turn_links {v : Int} {s : Nat × Nat} (hd : (m.prog h)[(m.hd h).at_]? = some (.push v)) (hc : (m.hd h).cell ≠ 0) (hs : (m.hd h).seen = some s) (hf : (m.hd h).follow = none) : m.turn h = (.links s.1, { m with links := m.links.set ((m.hd h).cell - 1) s.1 }.setH h { m.hd h with follow := some s.1 }) := by
  rw [turn_push hd hc hs]
  unfold M.push
  rw [hf]
theorem turn_pushed {v : Int} {f : Nat} (hd : (m.prog h)[(m.hd h).at_]? = some (.push v)) (hc : (m.hd h).cell ≠ 0) (hs : (m.hd h).seen = some (m.top, m.count)) (hf : (m.hd h).follow = some f) : m.turn h = (.ends .done, (m.exchd h (m.hd h).cell).endedH h .done) := by
  rw [turn_push hd hc hs]
  have hfit : m.fits h = true := by
    unfold M.fits
    rw [hs]
    simp
  unfold M.push
  rw [hf]
  simp only [hfit, if_true]
theorem turn_empty (hd : (m.prog h)[(m.hd h).at_]? = some .pop) (hs : (m.hd h).seen = none) (ht : m.top = 0) : m.turn h = (.ends .non, { m with ends := m.ends ++ [(h, (m.hd h).at_)] }.endedH h .non) := by
  rw [turn_readP hd hs]
  unfold M.read
  rw [if_pos ⟨ht, rfl⟩]
theorem turn_reads_pop (hd : (m.prog h)[(m.hd h).at_]? = some .pop) (hs : (m.hd h).seen = none) (ht : m.top ≠ 0) : m.turn h = (.reads m.top, m.setH h { m.hd h with seen := some (m.top, m.count) }) := by
  rw [turn_readP hd hs]
  unfold M.read
  rw [if_neg (fun z => ht z.1)]
theorem turn_marks {s : Nat × Nat} (hd : (m.prog h)[(m.hd h).at_]? = some .pop) (hs : (m.hd h).seen = some s) (hc : (m.hd h).cell = 0) (hn : m.rule.named h = true) (hl : (m.hd h).looked = false) (hm : (m.hd h).mark ≠ s.1) : m.turn h = (.marks s.1, m.setH h { m.hd h with mark := s.1 }) := by
  rw [turn_pop hd hs]
  unfold M.pop M.guard
  have e' : ¬ ((m.hd h).cell ≠ 0) := fun z => z hc
  rw [if_neg e', if_pos ⟨hn, hl⟩, if_pos hm]
theorem turn_looks {s : Nat × Nat} (hd : (m.prog h)[(m.hd h).at_]? = some .pop) (hs : (m.hd h).seen = some s) (hc : (m.hd h).cell = 0) (hn : m.rule.named h = true) (hl : (m.hd h).looked = false) (hm : (m.hd h).mark = s.1) (ht : m.top = s.1) : m.turn h = (.looks true, m.setH h { m.hd h with looked := true }) := by
  rw [turn_pop hd hs]
  unfold M.pop M.guard
  have e' : ¬ ((m.hd h).cell ≠ 0) := fun z => z hc
  rw [if_neg e', if_pos ⟨hn, hl⟩, if_neg (fun z => z hm), if_neg (fun z => z ht)]
theorem turn_follows {s : Nat × Nat} (hd : (m.prog h)[(m.hd h).at_]? = some .pop) (hs : (m.hd h).seen = some s) (hc : (m.hd h).cell = 0) (hn : ¬ (m.rule.named h = true ∧ (m.hd h).looked = false)) (hf : (m.hd h).follow = none) :
    m.turn h = (.follows (m.links.getD (s.1 - 1) 0), m.setH h { m.hd h with follow := some (m.links.getD (s.1 - 1) 0) }) := by
  rw [turn_pop hd hs]
  unfold M.pop
  have e' : ¬ ((m.hd h).cell ≠ 0) := fun z => z hc
  rw [if_neg e', if_neg hn, hf]
theorem turn_exchanges {f : Nat} (hd : (m.prog h)[(m.hd h).at_]? = some .pop) (hs : (m.hd h).seen = some (m.top, m.count)) (hc : (m.hd h).cell = 0) (hn : ¬ (m.rule.named h = true ∧ (m.hd h).looked = false)) (hf : (m.hd h).follow = some f) :
    m.turn h = (.exchanges f, { m.exchd h f with strayed := m.strayed || m.links.getD (m.top - 1) 0 != f }.setH h { m.hd h with cell := m.top }) := by
  rw [turn_pop hd hs]
  have hfit : m.fits h = true := by
    unfold M.fits
    rw [hs]
    simp
  have e' : ¬ ((m.hd h).cell ≠ 0) := fun z => z hc
  unfold M.pop
  rw [if_neg e', if_neg hn]
  cases ef : (m.hd h).follow with
  | none =>
    rw [hf] at ef
    cases ef
  | some g =>
    rw [hf] at ef
    cases ef
    simp only [hfit, if_true]
theorem turn_popped {s : Nat × Nat} (hd : (m.prog h)[(m.hd h).at_]? = some .pop) (hs : (m.hd h).seen = some s) (hc : (m.hd h).cell ≠ 0) :
    m.turn h = (.ends (.val (m.worths.getD ((m.hd h).cell - 1) 0)), { m with freed := m.freed ++ [(m.hd h).cell] }.endedH h (.val (m.worths.getD ((m.hd h).cell - 1) 0))) := by
  rw [turn_pop hd hs]
  unfold M.pop
  rw [if_pos hc]
end

def Tell.good (t : Tell) : Prop := t ≠ .misses ∧ t ≠ .looks false ∧ t ≠ .rests
/-- so many turns of one hand do a deed -/
inductive Does (h : Nat) : Nat → M → M → Prop where
  | last {m : M} (g : (m.turn h).1.good) (s : ((m.step h).hd h).said.length = (m.hd h).said.length + 1) : Does h 1 m (m.step h)
  | more {n : Nat} {m m' : M} (g : (m.turn h).1.good) (s : ((m.step h).hd h).said.length = (m.hd h).said.length) (d : Does h n (m.step h) m') : Does h (n + 1) m m'
theorem Does.of {h n : Nat} {m m1 m' : M} {t : Tell} (e : m.turn h = (t, m1)) (g : t.good) (s : (m1.hd h).said.length = (m.hd h).said.length) (d : Does h n m1 m') : Does h (n + 1) m m' := by
  have e1 : m.step h = m1 := by unfold M.step; rw [e]
  refine .more (by rw [e]; exact g) (by rw [e1]; exact s) (by rw [e1]; exact d)
theorem Does.end_ {h : Nat} {m m1 : M} {t : Tell} (e : m.turn h = (t, m1)) (g : t.good) (s : (m1.hd h).said.length = (m.hd h).said.length + 1) : Does h 1 m m1 := by
  have e1 : m.step h = m1 := by unfold M.step; rw [e]
  rw [← e1]
  exact .last (by rw [e]; exact g) (by rw [e1]; exact s)
/-- a cell is taken: what stands then -/
theorem taken_calm {m : M} {p : List Nat} (C : Calm m p) (v : Int) : ∃ c m', m.taken v = (c, m') ∧ 1 ≤ c ∧ c ≤ m'.worths.length ∧ c ∉ p ∧ c ∉ m'.freed ∧ m'.rule = m.rule ∧ m'.progs = m.progs ∧ m'.hands = m.hands ∧ m'.top = m.top ∧ m'.count = m.count ∧ m'.ends = m.ends ∧ m'.strayed = false ∧
    m'.links.length = m'.worths.length ∧ chain m'.links m.top p ∧ (∀ x ∈ p, 1 ≤ x ∧ x ≤ m'.worths.length) ∧ (∀ x ∈ m'.freed, 1 ≤ x ∧ x ≤ m'.worths.length ∧ x ∉ p) ∧ m'.freed.Nodup ∧ m'.worths.getD (c - 1) 0 = v ∧ ∀ x ∈ p, m'.worths.getD (x - 1) 0 = m.worths.getD (x - 1) 0 := by
  cases hp : pick m.rule m.marked m.freed with
  | some c =>
    have hm : c ∈ m.freed := by
      unfold pick at hp
      split at hp
      · cases hp
      · exact List.mem_of_find?_eq_some hp
    obtain ⟨h1, h2, h3⟩ := C.fr c hm
    rw [taken_some hp]
    refine ⟨c, _, rfl, h1, by simp; exact h2, h3, ?_, rfl, rfl, rfl, rfl, rfl, rfl, C.calm, ?_, C.ch, ?_, ?_, C.fd.erase c, ?_, ?_⟩
    · exact fun z => ((C.fd.mem_erase_iff).mp z).1 rfl
    · show m.links.length = (m.worths.set _ _).length
      rw [List.length_set]
      exact C.ll
    · intro x hx
      show _ ∧ x ≤ (m.worths.set _ _).length
      rw [List.length_set]
      exact C.inn x hx
    · intro x hx
      show _ ∧ x ≤ (m.worths.set _ _).length ∧ _
      rw [List.length_set]
      exact C.fr x (List.mem_of_mem_erase hx)
    · show (m.worths.set (c - 1) v).getD (c - 1) 0 = v
      rw [List.getD_eq_getElem?_getD, List.getElem?_set_self (by omega)]
      rfl
    · intro x hx
      have := (C.inn x hx).1
      have ne : x ≠ c := fun e => h3 (e ▸ hx)
      show (m.worths.set (c - 1) v).getD (x - 1) 0 = _
      simp only [List.getD_eq_getElem?_getD, List.getElem?_set]
      rw [if_neg (by omega)]
  | none =>
    rw [taken_none hp]
    refine ⟨m.worths.length + 1, _, rfl, by omega, by simp, ?_, ?_, rfl, rfl, rfl, rfl, rfl, rfl, C.calm, ?_, ?_, ?_, ?_, C.fd, ?_, ?_⟩
    · exact fun z => by have := (C.inn _ z).2; omega
    · exact fun z => by have := (C.fr _ z).2.1; omega
    · show (m.links ++ [0]).length = (m.worths ++ [v]).length
      rw [List.length_append, List.length_append, C.ll]
      rfl
    · exact chain_grow C.ch fun d hd => by rw [C.ll]; exact C.inn d hd
    · intro x hx
      have := C.inn x hx
      show _ ∧ x ≤ (m.worths ++ [v]).length
      rw [List.length_append]
      exact ⟨this.1, by omega⟩
    · intro x hx
      have := C.fr x hx
      show _ ∧ x ≤ (m.worths ++ [v]).length ∧ _
      rw [List.length_append]
      exact ⟨this.1, by omega, this.2.2⟩
    · show (m.worths ++ [v]).getD (m.worths.length + 1 - 1) 0 = v
      simp
    · intro x hx
      have := C.inn x hx
      show (m.worths ++ [v]).getD (x - 1) 0 = _
      simp only [List.getD_eq_getElem?_getD]
      rw [List.getElem?_append_left (by omega)]

theorem ended_fresh (x : Hd) (a : Ans) : (x.ended a).fresh := ⟨rfl, rfl, rfl, rfl, rfl⟩
/-- a push alone: four turns -/
theorem solo_push {m : M} {p : List Nat} {h : Nat} {v : Int} (C : Calm m p) (hl : h < m.hands.length) (hd : (m.prog h)[(m.hd h).at_]? = some (.push v)) :
    ∃ m' c, Does h 4 m m' ∧ Calm m' (c :: p) ∧ m'.worths.getD (c - 1) 0 = v ∧ (∀ x ∈ p, m'.worths.getD (x - 1) 0 = m.worths.getD (x - 1) 0) ∧ m'.ends = m.ends ++ [(h, (m.hd h).at_)] ∧ m'.hd h = (m.hd h).ended .done ∧ ∀ i, i ≠ h → m'.hd i = m.hd i := by
  obtain ⟨c, m', et, c1, c2, c3, c4, er, ep, eh, etop, ec, ee, es, ll, ch, inn, fr, fd, w1, w2⟩ := taken_calm C v
  obtain ⟨f1, f2, f3, f4, f5⟩ := C.fresh h
  have oth : ∀ i, m'.hd i = m.hd i := fun i => by unfold M.hd; rw [eh]
  have t1 := turn_takes hd f1
  rw [et] at t1
  have hl' : h < m'.hands.length := by rw [eh]; exact hl
  generalize hy : m.hd h = y at *
  have pr : ∀ (m2 : M), m2.progs = m'.progs → m2.prog h = m.prog h := fun m2 e => by unfold M.prog; rw [e, ep]
  have pg : ∀ (m2 : M) (z : Hd), m2.progs = m'.progs → z.at_ = y.at_ → (m2.prog h)[z.at_]? = some (.push v) := fun m2 z e1 e2 => by rw [pr m2 e1, e2]; exact hd
  -- the second turn
  have h1 : (m'.setH h { y with cell := c }).hd h = { y with cell := c } := M.setH_hd hl'
  have t2 := turn_reads_push (m := m'.setH h { y with cell := c }) (h := h) (v := v) (by rw [h1]; exact pg _ _ rfl rfl) (by rw [h1]; show c ≠ 0; omega) (by rw [h1]; exact f2)
  rw [h1, M.setH_setH] at t2
  -- the third
  have h2 : (m'.setH h { y with cell := c, seen := some (m'.top, m'.count) }).hd h = { y with cell := c, seen := some (m'.top, m'.count) } := M.setH_hd hl'
  have t3 := turn_links (m := m'.setH h { y with cell := c, seen := some (m'.top, m'.count) }) (h := h) (v := v) (s := (m'.top, m'.count)) (by rw [h2]; exact pg _ _ rfl rfl) (by rw [h2]; show c ≠ 0; omega) (by rw [h2]) (by rw [h2]; exact f3)
  rw [h2] at t3
  have e3 : ({ m'.setH h { y with cell := c, seen := some (m'.top, m'.count) } with links := m'.links.set (c - 1) m'.top } : M).setH h { y with cell := c, seen := some (m'.top, m'.count), follow := some m'.top } = ({ m' with links := m'.links.set (c - 1) m'.top } : M).setH h { y with cell := c, seen := some (m'.top, m'.count), follow := some m'.top } := by
    simp [M.setH, List.set_set]
  have t3' : (m'.setH h { y with cell := c, seen := some (m'.top, m'.count) }).turn h = (.links m'.top, ({ m' with links := m'.links.set (c - 1) m'.top } : M).setH h { y with cell := c, seen := some (m'.top, m'.count), follow := some m'.top }) := t3.trans (by rw [← e3]; rfl)
  -- the fourth
  have h3 : (({ m' with links := m'.links.set (c - 1) m'.top } : M).setH h { y with cell := c, seen := some (m'.top, m'.count), follow := some m'.top }).hd h = { y with cell := c, seen := some (m'.top, m'.count), follow := some m'.top } := M.setH_hd hl'
  have t4 := turn_pushed (m := ({ m' with links := m'.links.set (c - 1) m'.top } : M).setH h { y with cell := c, seen := some (m'.top, m'.count), follow := some m'.top }) (h := h) (v := v) (f := m'.top) (by rw [h3]; exact pg _ _ rfl rfl) (by rw [h3]; show c ≠ 0; omega) (by rw [h3]; rfl) (by rw [h3])
  rw [h3] at t4
  generalize hm3 : ({ m' with links := m'.links.set (c - 1) m'.top } : M).setH h { y with cell := c, seen := some (m'.top, m'.count), follow := some m'.top } = m3 at *
  have hl3 : h < (m3.exchd h c).hands.length := by
    show h < m3.hands.length
    rw [← hm3, M.setH_len]
    exact hl'
  have hex : (m3.exchd h c).hd h = m3.hd h := rfl
  have h4 : ((m3.exchd h c).endedH h .done).hd h = (m3.hd h).ended .done := by
    unfold M.endedH
    rw [M.setH_hd hl3]
    rfl
  have ye : (m3.hd h).ended .done = y.ended .done := by
    rw [h3]
    rfl
  have oth4 : ∀ i, i ≠ h → ((m3.exchd h c).endedH h .done).hd i = m.hd i := fun i ne => by
    unfold M.endedH
    rw [M.setH_ne hl3 ne]
    show m3.hd i = m.hd i
    rw [← hm3]
    exact (M.setH_ne (m := ({ m' with links := m'.links.set (c - 1) m'.top } : M)) hl' ne).trans (oth i)
  have L : m3.links = m'.links.set (c - 1) m'.top := by rw [← hm3]; rfl
  have Wt : m3.worths = m'.worths := by rw [← hm3]; rfl
  have Fd : m3.freed = m'.freed := by rw [← hm3]; rfl
  refine ⟨(m3.exchd h c).endedH h .done, c, ?_, ⟨?_, ?_, ?_, ?_, ?_, ?_, ?_, ?_⟩, ?_, ?_, ?_, ?_, oth4⟩
  · refine Does.of t1 (by unfold Tell.good; simp) (by rw [h1, hy]) (Does.of t2 (by unfold Tell.good; simp) ?_ (Does.of t3' (by unfold Tell.good; simp) ?_ (Does.end_ t4 (by unfold Tell.good; simp) ?_)))
    · have g := congrArg (fun z : Hd => z.said.length) h2
      rw [h1]
      exact g
    · have g := congrArg (fun z : Hd => z.said.length) h2
      rw [h3]
      exact g.symm
    · rw [h4]
      show ((m3.hd h).said ++ [Ans.done]).length = _
      rw [List.length_append]
      rfl
  · show chain m3.links c (c :: p)
    rw [L]
    refine ⟨rfl, by omega, ?_⟩
    have e : (m'.links.set (c - 1) m'.top).getD (c - 1) 0 = m'.top := by
      rw [List.getD_eq_getElem?_getD, List.getElem?_set_self (by omega)]
      rfl
    rw [e, etop]
    exact chain_set (by omega) ch c3 fun d hd => by have := (inn d hd).1; omega
  · exact List.nodup_cons.mpr ⟨c3, C.nd⟩
  · intro x hx
    show 1 ≤ x ∧ x ≤ m3.worths.length
    rw [Wt]
    rcases List.mem_cons.mp hx with rfl | hx
    · exact ⟨c1, c2⟩
    · exact inn x hx
  · show m3.links.length = m3.worths.length
    rw [L, Wt, List.length_set]
    exact ll
  · intro x hx
    have hx' : x ∈ m'.freed := by rw [← Fd]; exact hx
    obtain ⟨g1, g2, g3⟩ := fr x hx'
    show 1 ≤ x ∧ x ≤ m3.worths.length ∧ x ∉ c :: p
    rw [Wt]
    refine ⟨g1, g2, fun z => ?_⟩
    rcases List.mem_cons.mp z with rfl | z
    · exact c4 hx'
    · exact g3 z
  · show m3.freed.Nodup
    rw [Fd]
    exact fd
  · intro i
    by_cases e : i = h
    · subst e
      rw [h4]
      exact ended_fresh _ _
    · rw [oth4 i e]
      exact C.fresh i
  · show m3.strayed = false
    rw [← hm3]
    exact es
  · show m3.worths.getD (c - 1) 0 = v
    rw [Wt]
    exact w1
  · intro x hx
    show m3.worths.getD (x - 1) 0 = _
    rw [Wt]
    exact w2 x hx
  · show m3.ends ++ [(h, (m3.hd h).at_)] = _
    rw [h3, ← hm3]
    show m'.ends ++ [(h, y.at_)] = _
    rw [ee]
  · rw [h4]
    exact ye

/-- a pop of an empty pile alone: one turn -/
theorem solo_none {m : M} {h : Nat} (C : Calm m []) (hl : h < m.hands.length) (hd : (m.prog h)[(m.hd h).at_]? = some .pop) :
    ∃ m', Does h 1 m m' ∧ Calm m' [] ∧ m'.worths = m.worths ∧ m'.ends = m.ends ++ [(h, (m.hd h).at_)] ∧ m'.hd h = (m.hd h).ended .non ∧ ∀ i, i ≠ h → m'.hd i = m.hd i := by
  obtain ⟨f1, f2, f3, f4, f5⟩ := C.fresh h
  have t := turn_empty hd f2 C.ch
  have h1 : (({ m with ends := m.ends ++ [(h, (m.hd h).at_)] } : M).endedH h .non).hd h = (m.hd h).ended .non := by
    unfold M.endedH
    exact M.setH_hd hl
  have oth : ∀ i, i ≠ h → (({ m with ends := m.ends ++ [(h, (m.hd h).at_)] } : M).endedH h .non).hd i = m.hd i := fun i ne => by
    unfold M.endedH
    exact M.setH_ne (m := ({ m with ends := m.ends ++ [(h, (m.hd h).at_)] } : M)) hl ne
  refine ⟨_, Does.end_ t (by unfold Tell.good; simp) ?_, ⟨C.ch, C.nd, C.inn, C.ll, C.fr, C.fd, fun i => ?_, C.calm⟩, rfl, rfl, h1, oth⟩
  · rw [h1]
    show ((m.hd h).said ++ [Ans.non]).length = _
    rw [List.length_append]
    rfl
  · by_cases e : i = h
    · subst e
      rw [h1]
      exact ended_fresh _ _
    · rw [oth i e]
      exact C.fresh i
/-- the end of a pop: three turns -/
theorem solo_tail {m : M} {c : Nat} {p : List Nat} {h : Nat} {z : Hd} (C : Calm m (c :: p)) (hl : h < m.hands.length) (hd : (m.prog h)[z.at_]? = some .pop) (z1 : z.seen = some (m.top, m.count)) (z2 : z.cell = 0) (z3 : z.follow = none) (z4 : ¬ (m.rule.named h = true ∧ z.looked = false)) :
    ∃ m', Does h 3 (m.setH h z) m' ∧ Calm m' p ∧ m'.worths = m.worths ∧ m'.ends = m.ends ++ [(h, z.at_)] ∧ m'.hd h = z.ended (.val (m.worths.getD (c - 1) 0)) ∧ ∀ i, i ≠ h → m'.hd i = m.hd i := by
  obtain ⟨et, c0, ch⟩ := C.ch
  have hc := C.inn c List.mem_cons_self
  have h0 : (m.setH h z).hd h = z := M.setH_hd hl
  have t1 := turn_follows (m := m.setH h z) (h := h) (s := (m.top, m.count)) (by rw [h0]; exact hd) (by rw [h0]; exact z1) (by rw [h0]; exact z2) (by rw [h0]; exact z4) (by rw [h0]; exact z3)
  rw [h0, M.setH_setH] at t1
  have t1' : (m.setH h z).turn h = (.follows (m.links.getD (m.top - 1) 0), m.setH h { z with follow := some (m.links.getD (m.top - 1) 0) }) := t1
  have h1 : (m.setH h { z with follow := some (m.links.getD (m.top - 1) 0) }).hd h = { z with follow := some (m.links.getD (m.top - 1) 0) } := M.setH_hd hl
  have t2 := turn_exchanges (m := m.setH h { z with follow := some (m.links.getD (m.top - 1) 0) }) (h := h) (f := m.links.getD (m.top - 1) 0) (by rw [h1]; exact hd) (by rw [h1]; exact z1) (by rw [h1]; exact z2) (by rw [h1]; exact z4) (by rw [h1])
  rw [h1] at t2
  have hst : (m.strayed || m.links.getD (m.top - 1) 0 != m.links.getD (m.top - 1) 0) = false := by rw [C.calm]; simp
  have hl1 : h < (m.setH h { z with follow := some (m.links.getD (m.top - 1) 0) }).hands.length := by rw [M.setH_len]; exact hl
  have t2' : (m.setH h { z with follow := some (m.links.getD (m.top - 1) 0) }).turn h = (.exchanges (m.links.getD (m.top - 1) 0), ({ (m.setH h { z with follow := some (m.links.getD (m.top - 1) 0) }).exchd h (m.links.getD (m.top - 1) 0) with strayed := m.strayed || m.links.getD (m.top - 1) 0 != m.links.getD (m.top - 1) 0 } : M).setH h { z with follow := some (m.links.getD (m.top - 1) 0), cell := m.top }) := t2
  rw [hst] at t2'
  have h2 : (({ (m.setH h { z with follow := some (m.links.getD (m.top - 1) 0) }).exchd h (m.links.getD (m.top - 1) 0) with strayed := false } : M).setH h { z with follow := some (m.links.getD (m.top - 1) 0), cell := m.top }).hd h = { z with follow := some (m.links.getD (m.top - 1) 0), cell := m.top } := M.setH_hd hl1
  have oth2 : ∀ i, i ≠ h → (({ (m.setH h { z with follow := some (m.links.getD (m.top - 1) 0) }).exchd h (m.links.getD (m.top - 1) 0) with strayed := false } : M).setH h { z with follow := some (m.links.getD (m.top - 1) 0), cell := m.top }).hd i = m.hd i := fun i ne => by
    have e1 := M.setH_ne (m := ({ (m.setH h { z with follow := some (m.links.getD (m.top - 1) 0) }).exchd h (m.links.getD (m.top - 1) 0) with strayed := false } : M)) (x := { z with follow := some (m.links.getD (m.top - 1) 0), cell := m.top }) hl1 ne
    exact e1.trans (M.setH_ne hl ne)
  have he : (m.setH h { z with follow := some (m.links.getD (m.top - 1) 0) }).ends ++ [(h, ((m.setH h { z with follow := some (m.links.getD (m.top - 1) 0) }).hd h).at_)] = m.ends ++ [(h, z.at_)] := by rw [h1]; rfl
  have g2 : (({ (m.setH h { z with follow := some (m.links.getD (m.top - 1) 0) }).exchd h (m.links.getD (m.top - 1) 0) with strayed := false } : M).setH h { z with follow := some (m.links.getD (m.top - 1) 0), cell := m.top }).ends = m.ends ++ [(h, z.at_)] := he
  generalize hm2 : (({ (m.setH h { z with follow := some (m.links.getD (m.top - 1) 0) }).exchd h (m.links.getD (m.top - 1) 0) with strayed := false } : M).setH h { z with follow := some (m.links.getD (m.top - 1) 0), cell := m.top }) = m2 at *
  have pr : m2.prog h = m.prog h := by rw [← hm2]; rfl
  have W : m2.worths = m.worths := by rw [← hm2]; rfl
  have Lk : m2.links = m.links := by rw [← hm2]; rfl
  have Tp : m2.top = m.links.getD (m.top - 1) 0 := by rw [← hm2]; rfl
  have Fd : m2.freed = m.freed := by rw [← hm2]; rfl
  have St : m2.strayed = false := by rw [← hm2]; rfl
  have hl2 : h < m2.hands.length := by
    rw [← hm2, M.setH_len]
    exact hl1
  have t3 := turn_popped (m := m2) (h := h) (s := (m.top, m.count)) (by rw [h2, pr]; exact hd) (by rw [h2]; exact z1) (by rw [h2]; show m.top ≠ 0; omega)
  have t3' : m2.turn h = (.ends (.val (m.worths.getD (m.top - 1) 0)), ({ m2 with freed := m2.freed ++ [m.top] } : M).endedH h (.val (m.worths.getD (m.top - 1) 0))) := by
    have e : (m2.hd h).cell = m.top := by rw [h2]
    rw [t3, e, W]
  have h3 : (({ m2 with freed := m2.freed ++ [m.top] } : M).endedH h (.val (m.worths.getD (m.top - 1) 0))).hd h = (m2.hd h).ended (.val (m.worths.getD (m.top - 1) 0)) := by
    unfold M.endedH
    exact M.setH_hd hl2
  have oth3 : ∀ i, i ≠ h → (({ m2 with freed := m2.freed ++ [m.top] } : M).endedH h (.val (m.worths.getD (m.top - 1) 0))).hd i = m.hd i := fun i ne => by
    unfold M.endedH
    exact (M.setH_ne (m := ({ m2 with freed := m2.freed ++ [m.top] } : M)) hl2 ne).trans (oth2 i ne)
  have nd := List.nodup_cons.mp C.nd
  refine ⟨_, Does.of t1' (by unfold Tell.good; simp) ?_ (Does.of t2' (by unfold Tell.good; simp) ?_ (Does.end_ t3' (by unfold Tell.good; simp) ?_)), ⟨?_, nd.2, ?_, ?_, ?_, ?_, fun i => ?_, St⟩, W, g2, ?_, oth3⟩
  · rw [h1, h0]
  · rw [h2, h1]
  · rw [h3]
    show ((m2.hd h).said ++ [_]).length = _
    rw [List.length_append]
    rfl
  · show chain m2.links m2.top p
    rw [Lk, Tp, et]
    exact ch
  · intro x hx
    show 1 ≤ x ∧ x ≤ m2.worths.length
    rw [W]
    exact C.inn x (List.mem_cons_of_mem _ hx)
  · show m2.links.length = m2.worths.length
    rw [Lk, W]
    exact C.ll
  · intro x hx
    have hx' : x ∈ m.freed ++ [m.top] := by rw [← Fd]; exact hx
    show 1 ≤ x ∧ x ≤ m2.worths.length ∧ _
    rw [W]
    rcases List.mem_append.mp hx' with hx | hx
    · obtain ⟨a, b, d⟩ := C.fr x hx
      exact ⟨a, b, fun z => d (List.mem_cons_of_mem _ z)⟩
    · have : x = m.top := by simpa using hx
      rw [this, et]
      exact ⟨hc.1, hc.2, nd.1⟩
  · show (m2.freed ++ [m.top]).Nodup
    rw [Fd, List.nodup_append]
    refine ⟨C.fd, by simp, fun a ha b hb => ?_⟩
    have : b = m.top := by simpa using hb
    rw [this, et]
    exact fun z => (C.fr a ha).2.2 (z ▸ List.mem_cons_self)
  · by_cases e : i = h
    · subst e
      rw [h3]
      exact ended_fresh _ _
    · rw [oth3 i e]
      exact C.fresh i
  · rw [h3, h2, et]
    rfl

/-- a pop alone: four turns, or six where the rule has the hand mark -/
theorem solo_pop {m : M} {c : Nat} {p : List Nat} {h : Nat} (C : Calm m (c :: p)) (hl : h < m.hands.length) (hd : (m.prog h)[(m.hd h).at_]? = some .pop) :
    ∃ n m', n ≤ 9 ∧ Does h n m m' ∧ Calm m' p ∧ m'.worths = m.worths ∧ m'.ends = m.ends ++ [(h, (m.hd h).at_)] ∧ m'.hd h = (m.hd h).ended (.val (m.worths.getD (c - 1) 0)) ∧ ∀ i, i ≠ h → m'.hd i = m.hd i := by
  obtain ⟨f1, f2, f3, f4, f5⟩ := C.fresh h
  obtain ⟨et, c0, _⟩ := C.ch
  have t1 := turn_reads_pop hd f2 (by omega)
  generalize hy : m.hd h = y at *
  have h1 : (m.setH h { y with seen := some (m.top, m.count) }).hd h = { y with seen := some (m.top, m.count) } := M.setH_hd hl
  by_cases hn : m.rule.named h = true
  · have t2 := turn_marks (m := m.setH h { y with seen := some (m.top, m.count) }) (h := h) (s := (m.top, m.count)) (by rw [h1]; exact hd) (by rw [h1]) (by rw [h1]; exact f1) hn (by rw [h1]; exact f5) (by rw [h1]; show y.mark ≠ m.top; omega)
    rw [h1, M.setH_setH] at t2
    have t2' : (m.setH h { y with seen := some (m.top, m.count) }).turn h = (.marks m.top, m.setH h { y with seen := some (m.top, m.count), mark := m.top }) := t2
    have h2 : (m.setH h { y with seen := some (m.top, m.count), mark := m.top }).hd h = { y with seen := some (m.top, m.count), mark := m.top } := M.setH_hd hl
    have t3 := turn_looks (m := m.setH h { y with seen := some (m.top, m.count), mark := m.top }) (h := h) (s := (m.top, m.count)) (by rw [h2]; exact hd) (by rw [h2]) (by rw [h2]; exact f1) hn (by rw [h2]; exact f5) (by rw [h2]) rfl
    rw [h2, M.setH_setH] at t3
    have t3' : (m.setH h { y with seen := some (m.top, m.count), mark := m.top }).turn h = (.looks true, m.setH h { y with seen := some (m.top, m.count), mark := m.top, looked := true }) := t3
    have h3 : (m.setH h { y with seen := some (m.top, m.count), mark := m.top, looked := true }).hd h = { y with seen := some (m.top, m.count), mark := m.top, looked := true } := M.setH_hd hl
    obtain ⟨m', d, g1, g2, g3, g4, g5⟩ := solo_tail (z := { y with seen := some (m.top, m.count), mark := m.top, looked := true }) C hl hd rfl f1 f3 (fun z => by cases z.2)
    refine ⟨6, m', by decide, Does.of t1 (by unfold Tell.good; simp) (by rw [h1, hy]) (Does.of t2' (by unfold Tell.good; simp) (by rw [h2, h1]) (Does.of t3' (by unfold Tell.good; simp) (by rw [h3, h2]) d)), g1, g2, g3, g4, g5⟩
  · obtain ⟨m', d, g1, g2, g3, g4, g5⟩ := solo_tail (z := { y with seen := some (m.top, m.count) }) C hl hd rfl f1 f3 (fun z => hn z.1)
    exact ⟨4, m', by decide, Does.of t1 (by unfold Tell.good; simp) (by rw [h1, hy]) d, g1, g2, g3, g4, g5⟩

/-- the pile at first -/
def pile0 : Nat → List Nat
  | 0 => []
  | n + 1 => (n + 1) :: pile0 n
theorem pile0_in : ∀ (n : Nat) {x : Nat}, x ∈ pile0 n → 1 ≤ x ∧ x ≤ n
  | 0, x, h => by cases h
  | n + 1, x, h => by
    rcases List.mem_cons.mp h with rfl | h
    · omega
    · have := pile0_in n h
      omega
theorem pile0_nodup : ∀ n : Nat, (pile0 n).Nodup
  | 0 => List.nodup_nil
  | n + 1 => List.nodup_cons.mpr ⟨fun h => by have := pile0_in n h; omega, pile0_nodup n⟩
theorem pile0_chain {N : Nat} : ∀ n : Nat, n ≤ N → chain (List.range N) n (pile0 n)
  | 0, _ => rfl
  | n + 1, h => by
    refine ⟨rfl, by omega, ?_⟩
    have e : (List.range N).getD (n + 1 - 1) 0 = n := by
      rw [List.getD_eq_getElem?_getD, Nat.add_sub_cancel, List.getElem?_range (by omega)]
      rfl
    rw [e]
    exact pile0_chain n (by omega)
theorem pile0_values (values : List Int) : ∀ n : Nat, n ≤ values.length → (pile0 n).map (fun x => values.getD (x - 1) 0) = (values.take n).reverse
  | 0, _ => rfl
  | n + 1, h => by
    have hn : values[n]? = some (values[n]'(by omega)) := List.getElem?_eq_getElem _
    have e : values.take (n + 1) = values.take n ++ [values[n]'(by omega)] := by
      rw [List.take_succ, hn]
      rfl
    rw [e, List.reverse_append]
    show values.getD (n + 1 - 1) 0 :: _ = _
    rw [pile0_values values n (by omega), Nat.add_sub_cancel, List.getD_eq_getElem?_getD, hn]
    rfl
theorem begin_calm (values : List Int) (ps : List (List Deed)) (r : Rule) : Calm (M.begin_ values ps r) (pile0 values.length) ∧ (M.begin_ values ps r).pileValues = values.reverse := by
  have C : Calm (M.begin_ values ps r) (pile0 values.length) := by
    refine ⟨pile0_chain _ (Nat.le_refl _), pile0_nodup _, fun c h => pile0_in _ h, ?_, fun c h => (by cases h), List.nodup_nil, fun h => ?_, rfl⟩
    · show (List.range values.length).length = values.length
      rw [List.length_range]
    · have e : (M.begin_ values ps r).hd h = {} := by
        unfold M.hd M.begin_
        simp only [List.getD_eq_getElem?_getD, List.getElem?_map]
        cases ps[h]? <;> rfl
      rw [e]
      exact ⟨rfl, rfl, rfl, rfl, rfl⟩
  refine ⟨C, ?_⟩
  rw [C.values]
  show (pile0 values.length).map (fun x => values.getD (x - 1) 0) = _
  rw [pile0_values values _ (Nat.le_refl _), List.take_length]

theorem serial_snoc (values : List Int) (ds : List Deed) (d : Deed) : serial values (ds ++ [d]) = serialStep (serial values ds) d := by
  unfold serial
  rw [List.foldl_append]
  rfl
/-- a whole deed of one hand, the others wait: what serial says -/
theorem solo {m : M} {p : List Nat} {h : Nat} {values : List Int} {ds : List Deed} {d : Deed} (C : Calm m p) (V : m.pileValues = (serial values ds).2.reverse) (hl : h < m.hands.length) (hd : (m.prog h)[(m.hd h).at_]? = some d) :
    ∃ n m' p' a, n ≤ 9 ∧ Does h n m m' ∧ Calm m' p' ∧ m'.pileValues = (serial values (ds ++ [d])).2.reverse ∧ (serial values (ds ++ [d])).1 = (serial values ds).1 ++ [a] ∧ m'.ends = m.ends ++ [(h, (m.hd h).at_)] ∧ m'.hd h = (m.hd h).ended a ∧ ∀ i, i ≠ h → m'.hd i = m.hd i := by
  rw [serial_snoc]
  rw [C.values] at V
  cases d with
  | push v =>
    obtain ⟨m', c, D, C', w1, w2, e, e1, e2⟩ := solo_push C hl hd
    refine ⟨4, m', c :: p, .done, by decide, D, C', ?_, rfl, e, e1, e2⟩
    rw [C'.values]
    show m'.worths.getD (c - 1) 0 :: p.map _ = ((serial values ds).2 ++ [v]).reverse
    rw [w1, List.reverse_append, ← V]
    show v :: _ = v :: _
    congr 1
    exact List.map_congr_left fun x hx => w2 x hx
  | pop =>
    cases p with
    | nil =>
      obtain ⟨m', D, C', w, e, e1, e2⟩ := solo_none C hl hd
      have z : (serial values ds).2 = [] := by
        have : (serial values ds).2.reverse = [] := V.symm
        simpa using this
      refine ⟨1, m', [], .non, by decide, D, C', ?_, ?_, e, e1, e2⟩
      · rw [C'.values]
        unfold serialStep
        rw [z]
        rfl
      · unfold serialStep
        rw [z]
        rfl
    | cons c q =>
      obtain ⟨n, m', n9, D, C', w, e, e1, e2⟩ := solo_pop C hl hd
      have z : (serial values ds).2 = (q.map fun x => m.worths.getD (x - 1) 0).reverse ++ [m.worths.getD (c - 1) 0] := by
        have := congrArg List.reverse V
        rw [List.reverse_reverse] at this
        rw [← this]
        simp
      refine ⟨n, m', q, .val (m.worths.getD (c - 1) 0), n9, D, C', ?_, ?_, e, e1, e2⟩
      · rw [C'.values, w]
        unfold serialStep
        rw [z]
        simp
      · unfold serialStep
        rw [z]
        simp
end SS

set_option linter.all false
/-! A turn's ways, one by one. -/
namespace SS
/-- what a turn of hand h may tell and leave -/
inductive Move (m : M) (h : Nat) : Tell → M → Prop where
  | rests (hd : (m.prog h)[(m.hd h).at_]? = none) : Move m h .rests m
  | takesF (v : Int) (c : Nat) (hd : (m.prog h)[(m.hd h).at_]? = some (.push v)) (hc : (m.hd h).cell = 0) (hp : pick m.rule m.marked m.freed = some c) :
      Move m h (.takes c) (({ m with freed := m.freed.erase c, worths := m.worths.set (c - 1) v } : M).setH h { m.hd h with cell := c })
  | takesN (v : Int) (hd : (m.prog h)[(m.hd h).at_]? = some (.push v)) (hc : (m.hd h).cell = 0) (hp : pick m.rule m.marked m.freed = none) :
      Move m h (.takes (m.worths.length + 1)) (({ m with worths := m.worths ++ [v], links := m.links ++ [0] } : M).setH h { m.hd h with cell := m.worths.length + 1 })
  | readsQ (v : Int) (hd : (m.prog h)[(m.hd h).at_]? = some (.push v)) (hc : (m.hd h).cell ≠ 0) (hs : (m.hd h).seen = none) :
      Move m h (.reads m.top) (m.setH h { m.hd h with seen := some (m.top, m.count) })
  | readsP (hd : (m.prog h)[(m.hd h).at_]? = some .pop) (hs : (m.hd h).seen = none) (ht : m.top ≠ 0) :
      Move m h (.reads m.top) (m.setH h { m.hd h with seen := some (m.top, m.count) })
  | empty (hd : (m.prog h)[(m.hd h).at_]? = some .pop) (hs : (m.hd h).seen = none) (ht : m.top = 0) :
      Move m h (.ends .non) (({ m with ends := m.ends ++ [(h, (m.hd h).at_)] } : M).setH h ((m.hd h).ended .non))
  | links (v : Int) (s : Nat × Nat) (hd : (m.prog h)[(m.hd h).at_]? = some (.push v)) (hc : (m.hd h).cell ≠ 0) (hs : (m.hd h).seen = some s) (hf : (m.hd h).follow = none) :
      Move m h (.links s.1) (({ m with links := m.links.set ((m.hd h).cell - 1) s.1 } : M).setH h { m.hd h with follow := some s.1 })
  | pushed (v : Int) (f : Nat) (hd : (m.prog h)[(m.hd h).at_]? = some (.push v)) (hc : (m.hd h).cell ≠ 0) (hs : (m.hd h).seen = some (m.top, m.count)) (hf : (m.hd h).follow = some f) :
      Move m h (.ends .done) ((m.exchd h (m.hd h).cell).setH h ((m.hd h).ended .done))
  | missQ (v : Int) (s : Nat × Nat) (f : Nat) (hd : (m.prog h)[(m.hd h).at_]? = some (.push v)) (hc : (m.hd h).cell ≠ 0) (hs : (m.hd h).seen = some s) (hf : (m.hd h).follow = some f) (hn : s ≠ (m.top, m.count)) :
      Move m h .misses (m.setH h (m.hd h).forgot)
  | popped (s : Nat × Nat) (hd : (m.prog h)[(m.hd h).at_]? = some .pop) (hs : (m.hd h).seen = some s) (hc : (m.hd h).cell ≠ 0) :
      Move m h (.ends (.val (m.worths.getD ((m.hd h).cell - 1) 0))) (({ m with freed := m.freed ++ [(m.hd h).cell] } : M).setH h ((m.hd h).ended (.val (m.worths.getD ((m.hd h).cell - 1) 0))))
  | marks (s : Nat × Nat) (hd : (m.prog h)[(m.hd h).at_]? = some .pop) (hs : (m.hd h).seen = some s) (hc : (m.hd h).cell = 0) (hn : m.rule.named h = true) (hl : (m.hd h).looked = false) (hm : (m.hd h).mark ≠ s.1) :
      Move m h (.marks s.1) (m.setH h { m.hd h with mark := s.1 })
  | looksF (s : Nat × Nat) (hd : (m.prog h)[(m.hd h).at_]? = some .pop) (hs : (m.hd h).seen = some s) (hc : (m.hd h).cell = 0) (hn : m.rule.named h = true) (hl : (m.hd h).looked = false) (hm : (m.hd h).mark = s.1) (ht : m.top ≠ s.1) :
      Move m h (.looks false) (m.setH h (m.hd h).forgot)
  | looksT (s : Nat × Nat) (hd : (m.prog h)[(m.hd h).at_]? = some .pop) (hs : (m.hd h).seen = some s) (hc : (m.hd h).cell = 0) (hn : m.rule.named h = true) (hl : (m.hd h).looked = false) (hm : (m.hd h).mark = s.1) (ht : m.top = s.1) :
      Move m h (.looks true) (m.setH h { m.hd h with looked := true })
  | follows (s : Nat × Nat) (hd : (m.prog h)[(m.hd h).at_]? = some .pop) (hs : (m.hd h).seen = some s) (hc : (m.hd h).cell = 0) (hn : ¬ (m.rule.named h = true ∧ (m.hd h).looked = false)) (hf : (m.hd h).follow = none) :
      Move m h (.follows (m.links.getD (s.1 - 1) 0)) (m.setH h { m.hd h with follow := some (m.links.getD (s.1 - 1) 0) })
  | exchanges (f : Nat) (hd : (m.prog h)[(m.hd h).at_]? = some .pop) (hs : (m.hd h).seen = some (m.top, m.count)) (hc : (m.hd h).cell = 0) (hn : ¬ (m.rule.named h = true ∧ (m.hd h).looked = false)) (hf : (m.hd h).follow = some f) :
      Move m h (.exchanges f) (({ m.exchd h f with strayed := m.strayed || m.links.getD (m.top - 1) 0 != f } : M).setH h { m.hd h with cell := m.top })
  | missP (s : Nat × Nat) (f : Nat) (hd : (m.prog h)[(m.hd h).at_]? = some .pop) (hs : (m.hd h).seen = some s) (hc : (m.hd h).cell = 0) (hn : ¬ (m.rule.named h = true ∧ (m.hd h).looked = false)) (hf : (m.hd h).follow = some f) (hx : s ≠ (m.top, m.count)) :
      Move m h .misses (m.setH h (m.hd h).forgot)
theorem Move.of {m : M} {h : Nat} {t t' : Tell} {m1 m1' : M} (v : Move m h t m1) (e1 : t' = t) (e2 : m1' = m1) : Move m h t' m1' := by
  rw [e1, e2]
  exact v
theorem fits_of {m : M} {h : Nat} {s : Nat × Nat} (hs : (m.hd h).seen = some s) : m.fits h = decide (s = (m.top, m.count)) := by
  unfold M.fits
  rw [hs]
  exact decide_eq_decide.mpr ⟨fun e => Option.some.inj e, fun e => by rw [e]⟩
theorem move (m : M) (h : Nat) : Move m h (m.turn h).1 (m.step h) := by
  unfold M.step
  cases hd : (m.prog h)[(m.hd h).at_]? with
  | none =>
    have e : m.turn h = (.rests, m) := by
      unfold M.turn
      rw [hd]
    rw [e]
    exact .rests hd
  | some d =>
    cases d with
    | push v =>
      by_cases hc : (m.hd h).cell = 0
      · rw [turn_takes hd hc]
        cases hp : pick m.rule m.marked m.freed with
        | some c =>
          rw [taken_some hp]
          exact .takesF v c hd hc hp
        | none =>
          rw [taken_none hp]
          exact .takesN v hd hc hp
      · cases hs : (m.hd h).seen with
        | none =>
          rw [turn_reads_push hd hc hs]
          exact .readsQ v hd hc hs
        | some s =>
          cases hf : (m.hd h).follow with
          | none =>
            rw [turn_links hd hc hs hf]
            exact .links v s hd hc hs hf
          | some f =>
            by_cases hx : s = (m.top, m.count)
            · subst hx
              rw [turn_pushed hd hc hs hf]
              exact .pushed v f hd hc hs hf
            · have e : m.turn h = (.misses, m.setH h (m.hd h).forgot) := by
                rw [turn_push hd hc hs]
                unfold M.push
                rw [hf, fits_of hs, decide_eq_false hx]
                rfl
              rw [e]
              exact .missQ v s f hd hc hs hf hx
    | pop =>
      cases hs : (m.hd h).seen with
      | none =>
        by_cases ht : m.top = 0
        · rw [turn_empty hd hs ht]
          exact .empty hd hs ht
        · rw [turn_reads_pop hd hs ht]
          exact .readsP hd hs ht
      | some s =>
        by_cases hc : (m.hd h).cell = 0
        · by_cases hn : m.rule.named h = true ∧ (m.hd h).looked = false
          · by_cases hm : (m.hd h).mark = s.1
            · by_cases ht : m.top = s.1
              · rw [turn_looks hd hs hc hn.1 hn.2 hm ht]
                exact .looksT s hd hs hc hn.1 hn.2 hm ht
              · have e : m.turn h = (.looks false, m.setH h (m.hd h).forgot) := by
                  rw [turn_pop hd hs]
                  unfold M.pop M.guard
                  have e' : ¬ ((m.hd h).cell ≠ 0) := fun z => z hc
                  rw [if_neg e', if_pos hn, if_neg (fun z => z hm), if_pos ht]
                rw [e]
                exact .looksF s hd hs hc hn.1 hn.2 hm ht
            · rw [turn_marks hd hs hc hn.1 hn.2 hm]
              exact .marks s hd hs hc hn.1 hn.2 hm
          · cases hf : (m.hd h).follow with
            | none =>
              rw [turn_follows hd hs hc hn hf]
              exact .follows s hd hs hc hn hf
            | some f =>
              by_cases hx : s = (m.top, m.count)
              · subst hx
                rw [turn_exchanges hd hs hc hn hf]
                exact .exchanges f hd hs hc hn hf
              · have e : m.turn h = (.misses, m.setH h (m.hd h).forgot) := by
                  rw [turn_pop hd hs]
                  have e' : ¬ ((m.hd h).cell ≠ 0) := fun z => z hc
                  unfold M.pop
                  rw [if_neg e', if_neg hn]
                  have hft : m.fits h = false := by rw [fits_of hs, decide_eq_false hx]
                  cases ef : (m.hd h).follow with
                  | none =>
                    rw [hf] at ef
                    cases ef
                  | some g =>
                    simp only [hft, Bool.false_eq_true, if_false]
                rw [e]
                exact .missP s f hd hs hc hn hf hx
        · rw [turn_popped hd hs hc]
          exact .popped s hd hs hc
end SS

set_option linter.all false
/-! As long as nothing is stale: the pile, the cells, the answers are those of the decided deeds, one after another. -/
namespace SS
def M.deeds (m : M) : List Deed := m.ends.map fun e => (m.prog e.1).getD e.2 .pop
def M.wor (m : M) (c : Nat) : Int := m.worths.getD (c - 1) 0
def M.pend (m : M) (j : Nat) : List Ans :=
  if (m.prog j)[(m.hd j).at_]? = some .pop ∧ (m.hd j).cell ≠ 0 then [.val (m.wor (m.hd j).cell)] else []
def M.full (m : M) (j : Nat) : List Ans := (m.hd j).said ++ m.pend j
/-- the answers of a hand -/
def ansOf (j : Nat) (es : List (Nat × Nat)) (as : List Ans) : List Ans := ((es.zip as).filter fun e => e.1.1 == j).map (·.2)
structure Lin (values : List Int) (m : M) (p : List Nat) : Prop where
  ll : m.links.length = m.worths.length
  ch : chain m.links m.top p
  nd : p.Nodup
  fd : m.freed.Nodup
  pin : ∀ c ∈ p, 1 ≤ c ∧ c ≤ m.worths.length
  fin : ∀ c ∈ m.freed, 1 ≤ c ∧ c ≤ m.worths.length ∧ c ∉ p
  cin : ∀ j, (m.hd j).cell ≠ 0 → (m.hd j).cell ≤ m.worths.length ∧ (m.hd j).cell ∉ p ∧ (m.hd j).cell ∉ m.freed
  cne : ∀ i j, i ≠ j → (m.hd i).cell ≠ 0 → (m.hd i).cell ≠ (m.hd j).cell
  cov : ∀ c, 1 ≤ c → c ≤ m.worths.length → c ∈ p ∨ c ∈ m.freed ∨ ∃ j, (m.hd j).cell = c
  wrt : ∀ j v, (m.prog j)[(m.hd j).at_]? = some (.push v) → (m.hd j).cell ≠ 0 → m.wor (m.hd j).cell = v
  lnk : ∀ j v f, (m.prog j)[(m.hd j).at_]? = some (.push v) → (m.hd j).follow = some f → (m.hd j).cell ≠ 0 ∧ m.links.getD ((m.hd j).cell - 1) 0 = f ∧ ∃ c, (m.hd j).seen = some (f, c)
  vals : p.map m.wor = (serial values m.deeds).2.reverse
  ord : ∀ j, m.ends.filter (fun e => e.1 == j) = (List.range (decd (m.prog j) (m.hd j))).map fun k => (j, k)
  ans : ∀ j, ansOf j m.ends (serial values m.deeds).1 = m.full j
theorem getD_set_ne {α : Type} {l : List α} {i k : Nat} {a d : α} (n : i ≠ k) : (l.set i a).getD k d = l.getD k d := by
  simp only [List.getD_eq_getElem?_getD, List.getElem?_set]
  rw [if_neg n]
theorem getD_set_self {α : Type} {l : List α} {i : Nat} {a d : α} (h : i < l.length) : (l.set i a).getD i d = a := by
  rw [List.getD_eq_getElem?_getD, List.getElem?_set_self h]
  rfl
theorem getD_app {α : Type} {l l' : List α} {i : Nat} {d : α} (h : i < l.length) : (l ++ l').getD i d = l.getD i d := by
  simp only [List.getD_eq_getElem?_getD]
  rw [List.getElem?_append_left h]
theorem serial_len1 (values : List Int) (ds : List Deed) : (serial values ds).1.length = ds.length := by
  have := (serial_len ds ([], values)).1
  unfold serial
  simpa using this
theorem ansOf_snoc {j : Nat} {es : List (Nat × Nat)} {as : List Ans} {e : Nat × Nat} {a : Ans} (h : es.length = as.length) : ansOf j (es ++ [e]) (as ++ [a]) = ansOf j es as ++ if e.1 = j then [a] else [] := by
  unfold ansOf
  rw [List.zip_append h, List.filter_append, List.map_append]
  congr 1
  by_cases e0 : e.1 = j
  · rw [if_pos e0]
    have : (e.1 == j) = true := beq_iff_eq.mpr e0
    simp [this]
  · rw [if_neg e0]
    have : (e.1 == j) = false := beq_eq_false_iff_ne.mpr e0
    simp [this]
theorem ord_snoc {es : List (Nat × Nat)} {d d' : Nat → Nat} {h at_ : Nat} (o : ∀ j, es.filter (fun e => e.1 == j) = (List.range (d j)).map fun k => (j, k)) (e1 : d h = at_) (e2 : d' h = at_ + 1) (e3 : ∀ j, j ≠ h → d' j = d j) :
    ∀ j, (es ++ [(h, at_)]).filter (fun e => e.1 == j) = (List.range (d' j)).map fun k => (j, k) := by
  intro j
  rw [List.filter_append, o j]
  by_cases e : j = h
  · subst e
    rw [e2, e1, List.range_succ, List.map_append]
    simp
  · have : (h == j) = false := beq_eq_false_iff_ne.mpr fun z => e z.symm
    rw [e3 j e]
    simp [this]
theorem decd_push {p : List Deed} {x : Hd} {v : Int} (h : p[x.at_]? = some (.push v)) : decd p x = x.at_ := by
  unfold decd
  rw [h, if_neg (fun z => by cases z.1)]
  rfl
theorem decd_zero {p : List Deed} {x : Hd} (h : x.cell = 0) : decd p x = x.at_ := by
  unfold decd
  rw [if_neg (fun z => z.2 h)]
  rfl
theorem decd_pop {p : List Deed} {x : Hd} (h : p[x.at_]? = some .pop) (hc : x.cell ≠ 0) : decd p x = x.at_ + 1 := by
  unfold decd
  rw [if_pos ⟨h, hc⟩]
theorem decd_eq {p : List Deed} {x y : Hd} (h1 : x.at_ = y.at_) (h2 : x.cell = y.cell) : decd p x = decd p y := by
  unfold decd
  rw [h1, h2]
theorem pend_zero {m : M} {j : Nat} (h : (m.hd j).cell = 0) : m.pend j = [] := by
  unfold M.pend
  rw [if_neg (fun z => z.2 h)]
theorem pend_push {m : M} {j : Nat} {v : Int} (h : (m.prog j)[(m.hd j).at_]? = some (.push v)) : m.pend j = [] := by
  unfold M.pend
  rw [if_neg (fun z => by rw [h] at z; cases z.1)]
theorem pend_pop {m : M} {j : Nat} (h : (m.prog j)[(m.hd j).at_]? = some .pop) (hc : (m.hd j).cell ≠ 0) : m.pend j = [.val (m.wor (m.hd j).cell)] := by
  unfold M.pend
  rw [if_pos ⟨h, hc⟩]
theorem pend_eq {m m' : M} {j : Nat} (hp : m'.prog j = m.prog j) (h1 : (m'.hd j).at_ = (m.hd j).at_) (h2 : (m'.hd j).cell = (m.hd j).cell) (h3 : (m.hd j).cell ≠ 0 → m'.wor (m.hd j).cell = m.wor (m.hd j).cell) : m'.pend j = m.pend j := by
  unfold M.pend
  rw [hp, h1, h2]
  by_cases c : (m.hd j).cell = 0
  · rw [if_neg (fun z => z.2 c), if_neg (fun z => z.2 c)]
  · rw [h3 c]
theorem set_hd {m m1 : M} {h : Nat} {x : Hd} (e : m1.hands = m.hands) (hl : h < m.hands.length) (j : Nat) : (m1.setH h x).hd j = if j = h then x else m.hd j := by
  rw [M.hd_setH (by rw [e]; exact hl)]
  unfold M.hd
  rw [e]
theorem set_hh {m m1 : M} {h : Nat} {x : Hd} (e : m1.hands = m.hands) (hl : h < m.hands.length) : (m1.setH h x).hd h = x := by rw [set_hd e hl, if_pos rfl]
theorem set_hn {m m1 : M} {h : Nat} {x : Hd} (e : m1.hands = m.hands) (hl : h < m.hands.length) {j : Nat} (n : j ≠ h) : (m1.setH h x).hd j = m.hd j := by rw [set_hd e hl, if_neg n]
section
variable {values : List Int} {m : M} {p : List Nat} {h : Nat}
/-- what a hand has read, follows, marks is no matter -/
theorem Lin.quiet (L : Lin values m p) (hl : h < m.hands.length) (x : Hd) (ea : x.at_ = (m.hd h).at_) (ec : x.cell = (m.hd h).cell) (es : x.said = (m.hd h).said)
    (lk : ∀ v f, (m.prog h)[(m.hd h).at_]? = some (.push v) → x.follow = some f → (m.hd h).cell ≠ 0 ∧ m.links.getD ((m.hd h).cell - 1) 0 = f ∧ ∃ c, x.seen = some (f, c)) : Lin values (m.setH h x) p := by
  have A : ∀ j, ((m.setH h x).hd j).at_ = (m.hd j).at_ := fun j => by
    rw [set_hd rfl hl]
    split
    · next e => rw [e]; exact ea
    · rfl
  have C : ∀ j, ((m.setH h x).hd j).cell = (m.hd j).cell := fun j => by
    rw [set_hd rfl hl]
    split
    · next e => rw [e]; exact ec
    · rfl
  have S : ∀ j, ((m.setH h x).hd j).said = (m.hd j).said := fun j => by
    rw [set_hd rfl hl]
    split
    · next e => rw [e]; exact es
    · rfl
  refine ⟨L.ll, L.ch, L.nd, L.fd, L.pin, L.fin, fun j => by rw [C j]; exact L.cin j, fun i j n => by rw [C i, C j]; exact L.cne i j n, fun c h1 h2 => ?_, fun j v => by rw [A j, C j]; exact L.wrt j v, fun j v f hd hf => ?_, L.vals, fun j => ?_, fun j => ?_⟩
  · rcases L.cov c h1 h2 with z | z | ⟨j, z⟩
    · exact .inl z
    · exact .inr (.inl z)
    · exact .inr (.inr ⟨j, by rw [C j]; exact z⟩)
  · rw [A j] at hd
    rw [C j]
    by_cases e : j = h
    · subst e
      rw [set_hh rfl hl] at hf ⊢
      exact lk v f hd hf
    · rw [set_hn rfl hl e] at hf ⊢
      exact L.lnk j v f hd hf
  · have : decd ((m.setH h x).prog j) ((m.setH h x).hd j) = decd (m.prog j) (m.hd j) := decd_eq (A j) (C j)
    rw [this]
    exact L.ord j
  · have : (m.setH h x).full j = m.full j := by
      unfold M.full
      rw [S j, pend_eq (m := m) (m' := m.setH h x) rfl (A j) (C j) fun _ => rfl]
    rw [this]
    exact L.ans j
theorem Lin.linked (L : Lin values m p) (hl : h < m.hands.length) {v : Int} {s : Nat × Nat} (hd : (m.prog h)[(m.hd h).at_]? = some (.push v)) (hc : (m.hd h).cell ≠ 0) (hs : (m.hd h).seen = some s) :
    Lin values (({ m with links := m.links.set ((m.hd h).cell - 1) s.1 } : M).setH h { m.hd h with follow := some s.1 }) p := by
  obtain ⟨c1, c2, c3⟩ := L.cin h hc
  generalize hm1 : ({ m with links := m.links.set ((m.hd h).cell - 1) s.1 } : M) = m1
  have eh : m1.hands = m.hands := by rw [← hm1]
  have ek : m1.links = m.links.set ((m.hd h).cell - 1) s.1 := by rw [← hm1]
  have L1 : Lin values m1 p := by
    have e : ∀ j, m1.hd j = m.hd j := fun j => by unfold M.hd; rw [eh]
    have hl2 := L.ll
    refine ⟨by rw [ek, List.length_set, ← hm1]; exact hl2, by rw [ek, ← hm1]; exact chain_set hc L.ch c2 fun d hd => by have := (L.pin d hd).1; omega, L.nd, by rw [← hm1]; exact L.fd, by rw [← hm1]; exact L.pin, by rw [← hm1]; exact L.fin, by rw [← hm1]; exact L.cin, by rw [← hm1]; exact L.cne, by rw [← hm1]; exact L.cov, by rw [← hm1]; exact L.wrt, ?_, by rw [← hm1]; exact L.vals, by rw [← hm1]; exact L.ord, by rw [← hm1]; exact L.ans⟩
    intro j v' f hd' hf
    have ep : m1.prog j = m.prog j := by rw [← hm1]; rfl
    rw [e j] at hd' hf ⊢
    rw [ep] at hd'
    obtain ⟨g1, g2, g3⟩ := L.lnk j v' f hd' hf
    refine ⟨g1, ?_, g3⟩
    rw [ek]
    by_cases ej : j = h
    · subst ej
      rw [getD_set_self (by omega)]
      obtain ⟨c, g3⟩ := g3
      rw [hs] at g3
      cases g3
      rfl
    · rw [getD_set_ne (by have := L.cne j h ej g1; omega)]
      exact g2
  have e : m1.hd h = m.hd h := by unfold M.hd; rw [eh]
  refine L1.quiet (by rw [eh]; exact hl) _ (by rw [e]) (by rw [e]) (by rw [e]) fun v' f _ hf => ?_
  have ef : s.1 = f := Option.some.inj hf
  rw [e, ek, getD_set_self (by have := L.ll; omega)]
  exact ⟨hc, ef, s.2, by rw [← ef]; exact hs⟩
theorem Lin.tookF (L : Lin values m p) (hl : h < m.hands.length) {v : Int} {c : Nat} (hd : (m.prog h)[(m.hd h).at_]? = some (.push v)) (hc : (m.hd h).cell = 0) (hm : c ∈ m.freed) :
    Lin values (({ m with freed := m.freed.erase c, worths := m.worths.set (c - 1) v } : M).setH h { m.hd h with cell := c }) p := by
  obtain ⟨c1, c2, c3⟩ := L.fin c hm
  generalize hm1 : ({ m with freed := m.freed.erase c, worths := m.worths.set (c - 1) v } : M) = m1
  have eh : m1.hands = m.hands := by rw [← hm1]
  have ew : m1.worths = m.worths.set (c - 1) v := by rw [← hm1]
  have efr : m1.freed = m.freed.erase c := by rw [← hm1]
  have el : m1.links = m.links := by rw [← hm1]
  have et : m1.top = m.top := by rw [← hm1]
  have epr : ∀ j, m1.prog j = m.prog j := fun j => by rw [← hm1]; rfl
  have een : m1.ends = m.ends := by rw [← hm1]
  have H := set_hh (x := { m.hd h with cell := c }) eh hl
  have N := fun j n => set_hn (x := { m.hd h with cell := c }) eh hl (j := j) n
  generalize hm2 : m1.setH h { m.hd h with cell := c } = m2 at H N ⊢
  have ew2 : m2.worths = m.worths.set (c - 1) v := by rw [← hm2]; exact ew
  have efr2 : m2.freed = m.freed.erase c := by rw [← hm2]; exact efr
  have el2 : m2.links = m.links := by rw [← hm2]; exact el
  have et2 : m2.top = m.top := by rw [← hm2]; exact et
  have epr2 : ∀ j, m2.prog j = m.prog j := fun j => by rw [← hm2]; exact epr j
  have een2 : m2.ends = m.ends := by rw [← hm2]; exact een
  have edd : m2.deeds = m.deeds := by
    unfold M.deeds
    rw [een2]
    exact List.map_congr_left fun e _ => by rw [epr2]
  have wl : m2.worths.length = m.worths.length := by rw [ew2, List.length_set]
  have wne : ∀ d, d ≠ c → 1 ≤ d → m2.wor d = m.wor d := fun d n g => by
    unfold M.wor
    rw [ew2, getD_set_ne (by omega)]
  have cne : ∀ j, j ≠ h → (m.hd j).cell ≠ 0 → (m.hd j).cell ≠ c := fun j n z e => (L.cin j z).2.2 (e ▸ hm)
  refine ⟨by rw [el2, wl]; exact L.ll, by rw [el2, et2]; exact L.ch, L.nd, by rw [efr2]; exact L.fd.erase c, by rw [wl]; exact L.pin, ?_, ?_, ?_, ?_, ?_, ?_, ?_, ?_, ?_⟩
  · intro d hd
    rw [efr2] at hd
    rw [wl]
    exact L.fin d (List.mem_of_mem_erase hd)
  · intro j
    rw [wl, efr2]
    by_cases e : j = h
    · subst e
      rw [H]
      exact fun _ => ⟨c2, c3, fun z => ((L.fd.mem_erase_iff).mp z).1 rfl⟩
    · rw [N j e]
      intro z
      obtain ⟨g1, g2, g3⟩ := L.cin j z
      exact ⟨g1, g2, fun y => g3 (List.mem_of_mem_erase y)⟩
  · intro i j n
    by_cases ei : i = h
    · subst ei
      rw [H, N j (fun z => n z.symm)]
      intro _ e
      by_cases z : (m.hd j).cell = 0
      · have e' : c = (m.hd j).cell := e
        omega
      · exact cne j (fun z => n z.symm) z e.symm
    · rw [N i ei]
      by_cases ej : j = h
      · subst ej
        rw [H]
        exact fun z => cne i ei z
      · rw [N j ej]
        exact L.cne i j n
  · intro d h1 h2
    rw [wl] at h2
    rw [efr2]
    by_cases e : d = c
    · exact .inr (.inr ⟨h, by rw [H]; exact e.symm⟩)
    · rcases L.cov d h1 h2 with z | z | ⟨j, z⟩
      · exact .inl z
      · exact .inr (.inl ((List.mem_erase_of_ne e).mpr z))
      · refine .inr (.inr ⟨j, ?_⟩)
        have : j ≠ h := fun y => by
          subst y
          omega
        rw [N j this]
        exact z
  · intro j v' hd' hc'
    rw [epr2] at hd'
    by_cases e : j = h
    · subst e
      rw [H] at hd' ⊢
      have hd2 : (m.prog j)[(m.hd j).at_]? = some (.push v') := hd'
      rw [hd] at hd2
      cases hd2
      show m2.wor c = v
      unfold M.wor
      rw [ew2, getD_set_self (by omega)]
    · rw [N j e] at hd' hc' ⊢
      rw [wne _ (cne j e hc') (by omega)]
      exact L.wrt j v' hd' hc'
  · intro j v' f hd' hf
    rw [epr2] at hd'
    rw [el2]
    by_cases e : j = h
    · subst e
      rw [H] at hd' hf ⊢
      exact absurd hc (L.lnk j v' f hd' hf).1
    · rw [N j e] at hd' hf ⊢
      exact L.lnk j v' f hd' hf
  · rw [edd, ← L.vals]
    exact List.map_congr_left fun d hd => wne d (fun e => c3 (e ▸ hd)) (L.pin d hd).1
  · intro j
    rw [een2, epr2]
    by_cases e : j = h
    · subst e
      rw [L.ord j, decd_push hd, H]
      rw [decd_push (x := { m.hd j with cell := c }) hd]
    · rw [N j e]
      exact L.ord j
  · intro j
    rw [een2, edd, L.ans j]
    unfold M.full
    by_cases e : j = h
    · subst e
      rw [pend_push hd, pend_push (m := m2) (j := j) (v := v) (by rw [epr2, H]; exact hd), H]
    · rw [pend_eq (epr2 j) (by rw [N j e]) (by rw [N j e]) fun z => wne _ (cne j e z) (by omega), N j e]
theorem Lin.tookN (L : Lin values m p) (hl : h < m.hands.length) {v : Int} (hd : (m.prog h)[(m.hd h).at_]? = some (.push v)) (hc : (m.hd h).cell = 0) :
    Lin values (({ m with worths := m.worths ++ [v], links := m.links ++ [0] } : M).setH h { m.hd h with cell := m.worths.length + 1 }) p := by
  generalize hcc : m.worths.length + 1 = c
  generalize hm1 : ({ m with worths := m.worths ++ [v], links := m.links ++ [0] } : M) = m1
  have eh : m1.hands = m.hands := by rw [← hm1]
  have H := set_hh (x := { m.hd h with cell := c }) eh hl
  have N := fun j n => set_hn (x := { m.hd h with cell := c }) eh hl (j := j) n
  generalize hm2 : m1.setH h { m.hd h with cell := c } = m2 at H N ⊢
  have ew2 : m2.worths = m.worths ++ [v] := by rw [← hm2, ← hm1]; rfl
  have efr2 : m2.freed = m.freed := by rw [← hm2, ← hm1]; rfl
  have el2 : m2.links = m.links ++ [0] := by rw [← hm2, ← hm1]; rfl
  have et2 : m2.top = m.top := by rw [← hm2, ← hm1]; rfl
  have epr2 : ∀ j, m2.prog j = m.prog j := fun j => by rw [← hm2, ← hm1]; rfl
  have een2 : m2.ends = m.ends := by rw [← hm2, ← hm1]; rfl
  have edd : m2.deeds = m.deeds := by
    unfold M.deeds
    rw [een2]
    exact List.map_congr_left fun e _ => by rw [epr2]
  have wl : m2.worths.length = m.worths.length + 1 := by rw [ew2, List.length_append]; rfl
  have wne : ∀ d, d ≤ m.worths.length → 1 ≤ d → m2.wor d = m.wor d := fun d n g => by
    unfold M.wor
    rw [ew2, getD_app (by omega)]
  have hll := L.ll
  have cle : ∀ j, (m.hd j).cell ≠ 0 → (m.hd j).cell ≤ m.worths.length := fun j z => (L.cin j z).1
  refine ⟨by rw [el2, wl, List.length_append, hll]; rfl, by rw [el2, et2]; exact chain_grow L.ch fun d hd => by rw [hll]; exact L.pin d hd, L.nd, by rw [efr2]; exact L.fd, fun d hd => by have := L.pin d hd; rw [wl]; omega, ?_, ?_, ?_, ?_, ?_, ?_, ?_, ?_, ?_⟩
  · intro d hd
    rw [efr2] at hd
    obtain ⟨g1, g2, g3⟩ := L.fin d hd
    rw [wl]
    exact ⟨g1, by omega, g3⟩
  · intro j
    rw [wl, efr2]
    by_cases e : j = h
    · subst e
      rw [H]
      refine fun _ => ⟨by show c ≤ _; omega, fun z => ?_, fun z => ?_⟩
      · have := (L.pin _ z).2
        have e : c ≤ m.worths.length := this
        omega
      · have := (L.fin _ z).2.1
        have e : c ≤ m.worths.length := this
        omega
    · rw [N j e]
      intro z
      obtain ⟨g1, g2, g3⟩ := L.cin j z
      exact ⟨by omega, g2, g3⟩
  · intro i j n
    by_cases ei : i = h
    · subst ei
      rw [H, N j (fun z => n z.symm)]
      intro _ e
      have e' : c = (m.hd j).cell := e
      by_cases z : (m.hd j).cell = 0
      · omega
      · have := cle j z
        omega
    · rw [N i ei]
      by_cases ej : j = h
      · subst ej
        rw [H]
        intro z e
        have e' : (m.hd i).cell = c := e
        have := cle i z
        omega
      · rw [N j ej]
        exact L.cne i j n
  · intro d h1 h2
    rw [wl] at h2
    rw [efr2]
    by_cases e : d = c
    · exact .inr (.inr ⟨h, by rw [H]; exact e.symm⟩)
    · rcases L.cov d h1 (by omega) with z | z | ⟨j, z⟩
      · exact .inl z
      · exact .inr (.inl z)
      · refine .inr (.inr ⟨j, ?_⟩)
        have : j ≠ h := fun y => by
          subst y
          omega
        rw [N j this]
        exact z
  · intro j v' hd' hc'
    rw [epr2] at hd'
    by_cases e : j = h
    · subst e
      rw [H] at hd' ⊢
      have hd2 : (m.prog j)[(m.hd j).at_]? = some (.push v') := hd'
      rw [hd] at hd2
      cases hd2
      show m2.wor c = v
      unfold M.wor
      rw [ew2, ← hcc]
      simp
    · rw [N j e] at hd' hc' ⊢
      rw [wne _ (cle j hc') (by omega)]
      exact L.wrt j v' hd' hc'
  · intro j v' f hd' hf
    rw [epr2] at hd'
    rw [el2]
    by_cases e : j = h
    · subst e
      rw [H] at hd' hf ⊢
      exact absurd hc (L.lnk j v' f hd' hf).1
    · rw [N j e] at hd' hf ⊢
      obtain ⟨g1, g2, g3⟩ := L.lnk j v' f hd' hf
      have := cle j g1
      exact ⟨g1, by rw [getD_app (by omega)]; exact g2, g3⟩
  · rw [edd, ← L.vals]
    exact List.map_congr_left fun d hd => wne d (L.pin d hd).2 (L.pin d hd).1
  · intro j
    rw [een2, epr2]
    by_cases e : j = h
    · subst e
      rw [L.ord j, decd_push hd, H]
      rw [decd_push (x := { m.hd j with cell := c }) hd]
    · rw [N j e]
      exact L.ord j
  · intro j
    rw [een2, edd, L.ans j]
    unfold M.full
    by_cases e : j = h
    · subst e
      rw [pend_push hd, pend_push (m := m2) (j := j) (v := v) (by rw [epr2, H]; exact hd), H]
    · rw [pend_eq (epr2 j) (by rw [N j e]) (by rw [N j e]) fun z => wne _ (cle j z) (by omega), N j e]
theorem deeds_snoc {m m2 : M} {h k : Nat} {d : Deed} (e1 : m2.ends = m.ends ++ [(h, k)]) (e2 : ∀ j, m2.prog j = m.prog j) (hd : (m.prog h)[k]? = some d) : m2.deeds = m.deeds ++ [d] := by
  unfold M.deeds
  rw [e1, List.map_append]
  congr 1
  · exact List.map_congr_left fun e _ => by rw [e2]
  · show [(m2.prog h).getD k .pop] = [d]
    rw [e2, List.getD_eq_getElem?_getD, hd]
    rfl
theorem deeds_len (m : M) (values : List Int) : m.ends.length = (serial values m.deeds).1.length := by
  rw [serial_len1]
  unfold M.deeds
  rw [List.length_map]
theorem Lin.none (L : Lin values m p) (hl : h < m.hands.length) (hd : (m.prog h)[(m.hd h).at_]? = some .pop) (hc : (m.hd h).cell = 0) (ht : m.top = 0) :
    Lin values (({ m with ends := m.ends ++ [(h, (m.hd h).at_)] } : M).setH h ((m.hd h).ended .non)) p := by
  generalize hm1 : ({ m with ends := m.ends ++ [(h, (m.hd h).at_)] } : M) = m1
  have eh : m1.hands = m.hands := by rw [← hm1]
  have H := set_hh (x := (m.hd h).ended .non) eh hl
  have N := fun j n => set_hn (x := (m.hd h).ended .non) eh hl (j := j) n
  generalize hm2 : m1.setH h ((m.hd h).ended .non) = m2 at H N ⊢
  have ew2 : m2.worths = m.worths := by rw [← hm2, ← hm1]; rfl
  have efr2 : m2.freed = m.freed := by rw [← hm2, ← hm1]; rfl
  have el2 : m2.links = m.links := by rw [← hm2, ← hm1]; rfl
  have et2 : m2.top = m.top := by rw [← hm2, ← hm1]; rfl
  have epr2 : ∀ j, m2.prog j = m.prog j := fun j => by rw [← hm2, ← hm1]; rfl
  have een2 : m2.ends = m.ends ++ [(h, (m.hd h).at_)] := by rw [← hm2, ← hm1]; rfl
  have C : ∀ j, (m2.hd j).cell = (m.hd j).cell := fun j => by
    by_cases e : j = h
    · subst e
      rw [H, hc]
      rfl
    · rw [N j e]
  have W : ∀ c, m2.wor c = m.wor c := fun c => by unfold M.wor; rw [ew2]
  have p0 : p = [] := by
    have := L.ch
    rw [ht] at this
    exact chain_zero this
  subst p0
  have z0 : (serial values m.deeds).2 = [] := by
    have := L.vals
    rw [List.map_nil] at this
    simpa using this.symm
  have edd := deeds_snoc een2 epr2 hd
  have es : serial values m2.deeds = ((serial values m.deeds).1 ++ [.non], []) := by
    rw [edd, serial_snoc]
    unfold serialStep
    rw [z0]
    rfl
  refine ⟨by rw [el2, ew2]; exact L.ll, by rw [el2, et2]; exact L.ch, L.nd, by rw [efr2]; exact L.fd, by rw [ew2]; exact L.pin, by rw [ew2, efr2]; exact L.fin, fun j => by rw [C j, ew2, efr2]; exact L.cin j, fun i j n => by rw [C i, C j]; exact L.cne i j n, fun c h1 h2 => ?_, fun j v hd' hc' => ?_, fun j v f hd' hf => ?_, ?_, ?_, fun j => ?_⟩
  · rw [ew2] at h2
    rw [efr2]
    rcases L.cov c h1 h2 with z | z | ⟨j, z⟩
    · exact .inl z
    · exact .inr (.inl z)
    · exact .inr (.inr ⟨j, by rw [C j]; exact z⟩)
  · rw [epr2] at hd'
    rw [C j] at hc'
    have e : j ≠ h := fun e => by
      subst e
      exact hc' hc
    rw [N j e] at hd' ⊢
    rw [W]
    exact L.wrt j v hd' hc'
  · rw [epr2] at hd'
    have e : j ≠ h := fun e => by
      subst e
      rw [H] at hf
      cases hf
    rw [N j e] at hd' hf ⊢
    rw [el2]
    exact L.lnk j v f hd' hf
  · rw [es]
    rfl
  · rw [een2]
    refine ord_snoc (d := fun j => decd (m.prog j) (m.hd j)) (d' := fun j => decd (m2.prog j) (m2.hd j)) L.ord (decd_zero hc) ?_ fun j e => ?_
    · show decd (m2.prog h) (m2.hd h) = _
      rw [H, decd_ended]
    · show decd (m2.prog j) (m2.hd j) = decd (m.prog j) (m.hd j)
      rw [epr2, N j e]
  · rw [es, een2, ansOf_snoc (deeds_len m values), L.ans j]
    unfold M.full
    by_cases e : j = h
    · subst e
      rw [if_pos rfl, pend_zero hc, pend_zero (m := m2) (j := j) (by rw [C j]; exact hc), H, List.append_nil, List.append_nil]
      rfl
    · rw [if_neg (fun z => e z.symm), pend_eq (epr2 j) (by rw [N j e]) (C j) fun _ => W _, N j e, List.append_nil]
theorem Lin.didPush (L : Lin values m p) (hl : h < m.hands.length) {v : Int} {f : Nat} (hd : (m.prog h)[(m.hd h).at_]? = some (.push v)) (hc : (m.hd h).cell ≠ 0) (hs : (m.hd h).seen = some (m.top, m.count)) (hf : (m.hd h).follow = some f) :
    Lin values ((m.exchd h (m.hd h).cell).setH h ((m.hd h).ended .done)) ((m.hd h).cell :: p) := by
  obtain ⟨c1, c2, c3⟩ := L.cin h hc
  obtain ⟨_, lk, cc, sk⟩ := L.lnk h v f hd hf
  rw [hs] at sk
  cases sk
  have eh : (m.exchd h (m.hd h).cell).hands = m.hands := rfl
  have H := set_hh (x := (m.hd h).ended .done) eh hl
  have N := fun j n => set_hn (x := (m.hd h).ended .done) eh hl (j := j) n
  generalize hm2 : (m.exchd h (m.hd h).cell).setH h ((m.hd h).ended .done) = m2 at H N ⊢
  have ew2 : m2.worths = m.worths := by rw [← hm2]; rfl
  have efr2 : m2.freed = m.freed := by rw [← hm2]; rfl
  have el2 : m2.links = m.links := by rw [← hm2]; rfl
  have et2 : m2.top = (m.hd h).cell := by rw [← hm2]; rfl
  have epr2 : ∀ j, m2.prog j = m.prog j := fun j => by rw [← hm2]; rfl
  have een2 : m2.ends = m.ends ++ [(h, (m.hd h).at_)] := by rw [← hm2]; rfl
  have W : ∀ c, m2.wor c = m.wor c := fun c => by unfold M.wor; rw [ew2]
  have edd := deeds_snoc een2 epr2 hd
  have es : serial values m2.deeds = ((serial values m.deeds).1 ++ [.done], (serial values m.deeds).2 ++ [v]) := by
    rw [edd, serial_snoc]
    rfl
  have cz : (m2.hd h).cell = 0 := by rw [H]; rfl
  refine ⟨by rw [el2, ew2]; exact L.ll, ?_, List.nodup_cons.mpr ⟨c2, L.nd⟩, by rw [efr2]; exact L.fd, ?_, ?_, ?_, ?_, ?_, ?_, ?_, ?_, ?_, ?_⟩
  · rw [el2, et2]
    refine ⟨rfl, hc, ?_⟩
    rw [lk]
    exact L.ch
  · intro d hd
    rw [ew2]
    rcases List.mem_cons.mp hd with rfl | hd
    · omega
    · exact L.pin d hd
  · intro d hd
    rw [efr2] at hd
    rw [ew2]
    obtain ⟨g1, g2, g3⟩ := L.fin d hd
    refine ⟨g1, g2, fun z => ?_⟩
    rcases List.mem_cons.mp z with rfl | z
    · exact c3 hd
    · exact g3 z
  · intro j z
    have e : j ≠ h := fun e => by
      subst e
      exact z cz
    rw [N j e] at z ⊢
    rw [ew2, efr2]
    obtain ⟨g1, g2, g3⟩ := L.cin j z
    refine ⟨g1, fun y => ?_, g3⟩
    rcases List.mem_cons.mp y with y | y
    · exact L.cne j h e z y
    · exact g2 y
  · intro i j n z
    have e : i ≠ h := fun e => by
      subst e
      exact z cz
    rw [N i e] at z ⊢
    by_cases ej : j = h
    · subst ej
      rw [cz]
      exact z
    · rw [N j ej]
      exact L.cne i j n z
  · intro c h1 h2
    rw [ew2] at h2
    rw [efr2]
    rcases L.cov c h1 h2 with z | z | ⟨j, z⟩
    · exact .inl (List.mem_cons_of_mem _ z)
    · exact .inr (.inl z)
    · by_cases e : j = h
      · subst e
        exact .inl (by rw [z]; exact List.mem_cons_self)
      · exact .inr (.inr ⟨j, by rw [N j e]; exact z⟩)
  · intro j v' hd' hc'
    have e : j ≠ h := fun e => by
      subst e
      exact hc' cz
    rw [epr2] at hd'
    rw [N j e] at hd' hc' ⊢
    rw [W]
    exact L.wrt j v' hd' hc'
  · intro j v' f hd' hf'
    have e : j ≠ h := fun e => by
      subst e
      rw [H] at hf'
      cases hf'
    rw [epr2] at hd'
    rw [N j e] at hd' hf' ⊢
    rw [el2]
    exact L.lnk j v' f hd' hf'
  · rw [es, List.map_cons, W, L.wrt h v hd hc]
    show v :: p.map m2.wor = ((serial values m.deeds).2 ++ [v]).reverse
    rw [List.reverse_append, ← L.vals]
    show v :: _ = v :: _
    congr 1
    exact List.map_congr_left fun d _ => W d
  · rw [een2]
    refine ord_snoc (d := fun j => decd (m.prog j) (m.hd j)) (d' := fun j => decd (m2.prog j) (m2.hd j)) L.ord (decd_push hd) ?_ fun j e => ?_
    · show decd (m2.prog h) (m2.hd h) = _
      rw [H, decd_ended]
    · show decd (m2.prog j) (m2.hd j) = decd (m.prog j) (m.hd j)
      rw [epr2, N j e]
  · intro j
    rw [es, een2, ansOf_snoc (deeds_len m values), L.ans j]
    unfold M.full
    by_cases e : j = h
    · subst e
      rw [if_pos rfl, pend_push hd, pend_zero (m := m2) (j := j) cz, H, List.append_nil, List.append_nil]
      rfl
    · rw [if_neg (fun z => e z.symm), pend_eq (epr2 j) (by rw [N j e]) (by rw [N j e]) fun _ => W _, N j e, List.append_nil]
theorem Lin.didPop (L : Lin values m p) (hl : h < m.hands.length) {f : Nat} {b : Bool} (hd : (m.prog h)[(m.hd h).at_]? = some .pop) (hc : (m.hd h).cell = 0) (ht : m.top ≠ 0) (hk : m.links.getD (m.top - 1) 0 = f) :
    ∃ p', p = m.top :: p' ∧ Lin values (({ m.exchd h f with strayed := b } : M).setH h { m.hd h with cell := m.top }) p' := by
  cases p with
  | nil => exact absurd L.ch ht
  | cons c p =>
  obtain ⟨rfl, c0, ch⟩ := L.ch
  refine ⟨p, rfl, ?_⟩
  rw [hk] at ch
  have nd := List.nodup_cons.mp L.nd
  have ti := L.pin m.top List.mem_cons_self
  generalize htt : m.top = t at *
  generalize hm1 : ({ m.exchd h f with strayed := b } : M) = m1
  have eh : m1.hands = m.hands := by rw [← hm1]; rfl
  have H := set_hh (x := { m.hd h with cell := t }) eh hl
  have N := fun j n => set_hn (x := { m.hd h with cell := t }) eh hl (j := j) n
  generalize hm2 : m1.setH h { m.hd h with cell := t } = m2 at H N ⊢
  have ew2 : m2.worths = m.worths := by rw [← hm2, ← hm1]; rfl
  have efr2 : m2.freed = m.freed := by rw [← hm2, ← hm1]; rfl
  have el2 : m2.links = m.links := by rw [← hm2, ← hm1]; rfl
  have et2 : m2.top = f := by rw [← hm2, ← hm1]; rfl
  have epr2 : ∀ j, m2.prog j = m.prog j := fun j => by rw [← hm2, ← hm1]; rfl
  have een2 : m2.ends = m.ends ++ [(h, (m.hd h).at_)] := by rw [← hm2, ← hm1]; rfl
  have W : ∀ c, m2.wor c = m.wor c := fun c => by unfold M.wor; rw [ew2]
  have edd := deeds_snoc een2 epr2 hd
  have z0 : (serial values m.deeds).2 = (p.map m.wor).reverse ++ [m.wor t] := by
    have := congrArg List.reverse L.vals
    rw [List.reverse_reverse] at this
    rw [← this]
    simp
  have es : serial values m2.deeds = ((serial values m.deeds).1 ++ [.val (m.wor t)], (p.map m.wor).reverse) := by
    rw [edd, serial_snoc]
    unfold serialStep
    rw [z0]
    simp
  have cj : ∀ j, (m.hd j).cell ≠ 0 → (m.hd j).cell ≠ t := fun j z e => (L.cin j z).2.1 (by rw [e]; exact List.mem_cons_self)
  refine ⟨by rw [el2, ew2]; exact L.ll, by rw [el2, et2]; exact ch, nd.2, by rw [efr2]; exact L.fd, ?_, ?_, ?_, ?_, ?_, ?_, ?_, ?_, ?_, ?_⟩
  · intro d hd
    rw [ew2]
    exact L.pin d (List.mem_cons_of_mem _ hd)
  · intro d hd
    rw [efr2] at hd
    rw [ew2]
    obtain ⟨g1, g2, g3⟩ := L.fin d hd
    exact ⟨g1, g2, fun z => g3 (List.mem_cons_of_mem _ z)⟩
  · intro j z
    rw [ew2, efr2]
    by_cases e : j = h
    · subst e
      rw [H]
      exact ⟨ti.2, nd.1, fun y => (L.fin t y).2.2 List.mem_cons_self⟩
    · rw [N j e] at z ⊢
      obtain ⟨g1, g2, g3⟩ := L.cin j z
      exact ⟨g1, fun y => g2 (List.mem_cons_of_mem _ y), g3⟩
  · intro i j n z
    by_cases ei : i = h
    · subst ei
      rw [H, N j (fun z => n z.symm)]
      intro e
      have e' : t = (m.hd j).cell := e
      exact cj j (by omega) e'.symm
    · rw [N i ei] at z ⊢
      by_cases ej : j = h
      · subst ej
        rw [H]
        exact cj i z
      · rw [N j ej]
        exact L.cne i j n z
  · intro c h1 h2
    rw [ew2] at h2
    rw [efr2]
    rcases L.cov c h1 h2 with z | z | ⟨j, z⟩
    · rcases List.mem_cons.mp z with z | z
      · exact .inr (.inr ⟨h, by rw [H]; exact z.symm⟩)
      · exact .inl z
    · exact .inr (.inl z)
    · have e : j ≠ h := fun e => by
        subst e
        omega
      exact .inr (.inr ⟨j, by rw [N j e]; exact z⟩)
  · intro j v' hd' hc'
    rw [epr2] at hd'
    by_cases e : j = h
    · subst e
      rw [H] at hd'
      have hd2 : (m.prog j)[(m.hd j).at_]? = some (.push v') := hd'
      rw [hd] at hd2
      cases hd2
    · rw [N j e] at hd' hc' ⊢
      rw [W]
      exact L.wrt j v' hd' hc'
  · intro j v' f' hd' hf'
    rw [epr2] at hd'
    by_cases e : j = h
    · subst e
      rw [H] at hd'
      have hd2 : (m.prog j)[(m.hd j).at_]? = some (.push v') := hd'
      rw [hd] at hd2
      cases hd2
    · rw [N j e] at hd' hf' ⊢
      rw [el2]
      exact L.lnk j v' f' hd' hf'
  · rw [es]
    show p.map m2.wor = ((p.map m.wor).reverse).reverse
    rw [List.reverse_reverse]
    exact List.map_congr_left fun d _ => W d
  · rw [een2]
    refine ord_snoc (d := fun j => decd (m.prog j) (m.hd j)) (d' := fun j => decd (m2.prog j) (m2.hd j)) L.ord (decd_zero hc) ?_ fun j e => ?_
    · show decd (m2.prog h) (m2.hd h) = _
      rw [H, epr2, decd_pop (x := { m.hd h with cell := t }) hd c0]
    · show decd (m2.prog j) (m2.hd j) = decd (m.prog j) (m.hd j)
      rw [epr2, N j e]
  · intro j
    rw [es, een2, ansOf_snoc (deeds_len m values), L.ans j]
    unfold M.full
    by_cases e : j = h
    · subst e
      rw [if_pos rfl, pend_zero hc, pend_pop (m := m2) (j := j) (by rw [epr2, H]; exact hd) (by rw [H]; exact c0), H, List.append_nil]
      show _ ++ [Ans.val (m.wor t)] = _ ++ [Ans.val (m2.wor t)]
      rw [W]
    · rw [if_neg (fun z => e z.symm), pend_eq (epr2 j) (by rw [N j e]) (by rw [N j e]) fun _ => W _, N j e, List.append_nil]
theorem Lin.letGo (L : Lin values m p) (hl : h < m.hands.length) (hd : (m.prog h)[(m.hd h).at_]? = some .pop) (hc : (m.hd h).cell ≠ 0) :
    Lin values (({ m with freed := m.freed ++ [(m.hd h).cell] } : M).setH h ((m.hd h).ended (.val (m.worths.getD ((m.hd h).cell - 1) 0)))) p := by
  obtain ⟨c1, c2, c3⟩ := L.cin h hc
  generalize hx : (m.hd h).ended (.val (m.worths.getD ((m.hd h).cell - 1) 0)) = x
  generalize hm1 : ({ m with freed := m.freed ++ [(m.hd h).cell] } : M) = m1
  have eh : m1.hands = m.hands := by rw [← hm1]
  have H := set_hh (x := x) eh hl
  have N := fun j n => set_hn (x := x) eh hl (j := j) n
  generalize hm2 : m1.setH h x = m2 at H N ⊢
  have ew2 : m2.worths = m.worths := by rw [← hm2, ← hm1]; rfl
  have efr2 : m2.freed = m.freed ++ [(m.hd h).cell] := by rw [← hm2, ← hm1]; rfl
  have el2 : m2.links = m.links := by rw [← hm2, ← hm1]; rfl
  have et2 : m2.top = m.top := by rw [← hm2, ← hm1]; rfl
  have epr2 : ∀ j, m2.prog j = m.prog j := fun j => by rw [← hm2, ← hm1]; rfl
  have een2 : m2.ends = m.ends := by rw [← hm2, ← hm1]; rfl
  have W : ∀ c, m2.wor c = m.wor c := fun c => by unfold M.wor; rw [ew2]
  have edd : m2.deeds = m.deeds := by
    unfold M.deeds
    rw [een2]
    exact List.map_congr_left fun e _ => by rw [epr2]
  have cz : (m2.hd h).cell = 0 := by rw [H, ← hx]; rfl
  refine ⟨by rw [el2, ew2]; exact L.ll, by rw [el2, et2]; exact L.ch, L.nd, ?_, by rw [ew2]; exact L.pin, ?_, ?_, ?_, ?_, ?_, ?_, ?_, ?_, ?_⟩
  · rw [efr2, List.nodup_append]
    refine ⟨L.fd, by simp, fun a ha b hb => ?_⟩
    have : b = (m.hd h).cell := by simpa using hb
    rw [this]
    exact fun z => c3 (z ▸ ha)
  · intro d hd
    rw [efr2] at hd
    rw [ew2]
    rcases List.mem_append.mp hd with z | z
    · exact L.fin d z
    · have : d = (m.hd h).cell := by simpa using z
      subst this
      exact ⟨by omega, c1, c2⟩
  · intro j z
    have e : j ≠ h := fun e => by
      subst e
      exact z cz
    rw [N j e] at z ⊢
    rw [ew2, efr2]
    obtain ⟨g1, g2, g3⟩ := L.cin j z
    refine ⟨g1, g2, fun y => ?_⟩
    rcases List.mem_append.mp y with y | y
    · exact g3 y
    · have : (m.hd j).cell = (m.hd h).cell := by simpa using y
      exact L.cne j h e z this
  · intro i j n z
    have e : i ≠ h := fun e => by
      subst e
      exact z cz
    rw [N i e] at z ⊢
    by_cases ej : j = h
    · subst ej
      rw [cz]
      exact z
    · rw [N j ej]
      exact L.cne i j n z
  · intro c h1 h2
    rw [ew2] at h2
    rw [efr2]
    rcases L.cov c h1 h2 with z | z | ⟨j, z⟩
    · exact .inl z
    · exact .inr (.inl (List.mem_append_left _ z))
    · by_cases e : j = h
      · subst e
        exact .inr (.inl (by rw [← z]; simp))
      · exact .inr (.inr ⟨j, by rw [N j e]; exact z⟩)
  · intro j v' hd' hc'
    have e : j ≠ h := fun e => by
      subst e
      exact hc' cz
    rw [epr2] at hd'
    rw [N j e] at hd' hc' ⊢
    rw [W]
    exact L.wrt j v' hd' hc'
  · intro j v' f hd' hf'
    have e : j ≠ h := fun e => by
      subst e
      rw [H, ← hx] at hf'
      cases hf'
    rw [epr2] at hd'
    rw [N j e] at hd' hf' ⊢
    rw [el2]
    exact L.lnk j v' f hd' hf'
  · rw [edd, ← L.vals]
    exact List.map_congr_left fun d _ => W d
  · intro j
    rw [een2, epr2]
    by_cases e : j = h
    · subst e
      rw [L.ord j, decd_pop hd hc, H, ← hx, decd_ended]
    · rw [N j e]
      exact L.ord j
  · intro j
    rw [een2, edd, L.ans j]
    unfold M.full
    by_cases e : j = h
    · subst e
      rw [pend_pop hd hc, pend_zero (m := m2) (j := j) cz, H, ← hx, List.append_nil]
      rfl
    · rw [pend_eq (epr2 j) (by rw [N j e]) (by rw [N j e]) fun _ => W _, N j e]
end
/-- what was stale stays so -/
theorem stray_mono {m : M} {h : Nat} (e : (m.step h).strayed = false) : m.strayed = false := by
  have := move m h
  generalize (m.turn h).1 = t at this
  generalize m.step h = m' at this e
  cases this with
  | exchanges f hd hs hc hn hf =>
    have e' : (m.strayed || m.links.getD (m.top - 1) 0 != f) = false := e
    rw [Bool.or_eq_false_iff] at e'
    exact e'.1
  | _ => exact e
theorem run_stray : ∀ {w : List Nat} {m : M}, (m.run w).strayed = false → m.strayed = false
  | [], _, e => e
  | h :: w, m, e => stray_mono (run_stray (w := w) (m := m.step h) e)
theorem Lin.step {values : List Int} {ps : List (List Deed)} {r : Rule} {m : M} {p : List Nat} {h : Nat} (L : Lin values m p) (f : Fine ps r m) (hl : h < ps.length) (e : (m.step h).strayed = false) : ∃ p', Lin values (m.step h) p' := by
  have hl' : h < m.hands.length := by rw [f.hn]; exact hl
  have K := f.hand h
  have mv := move m h
  generalize (m.turn h).1 = t at mv
  generalize hm' : m.step h = m' at mv e
  cases mv with
  | rests hd => exact ⟨p, L⟩
  | takesF v c hd hc hp => exact ⟨p, L.tookF hl' hd hc (pick_mem hp)⟩
  | takesN v hd hc hp => exact ⟨p, L.tookN hl' hd hc⟩
  | readsQ v hd hc hs => exact ⟨p, L.quiet hl' _ rfl rfl rfl fun v' g h1 h2 => by
      obtain ⟨_, _, c, z⟩ := L.lnk h v' g h1 h2
      rw [hs] at z
      cases z⟩
  | readsP hd hs ht => exact ⟨p, L.quiet hl' _ rfl rfl rfl fun v' g h1 h2 => by
      rw [hd] at h1
      cases h1⟩
  | empty hd hs ht =>
    refine ⟨p, L.none hl' hd ?_ ht⟩
    apply Classical.byContradiction
    exact fun z => K.popS hd z hs
  | links v s hd hc hs hf => exact ⟨p, L.linked hl' hd hc hs⟩
  | pushed v g hd hc hs hf => exact ⟨_, L.didPush hl' hd hc hs hf⟩
  | missQ v s g hd hc hs hf hn => exact ⟨p, L.quiet hl' _ rfl rfl rfl fun v' g h1 h2 => by cases h2⟩
  | popped s hd hs hc => exact ⟨p, L.letGo hl' hd hc⟩
  | marks s hd hs hc hn hk hm => exact ⟨p, L.quiet hl' _ rfl rfl rfl fun v' g h1 h2 => by
      rw [hd] at h1
      cases h1⟩
  | looksF s hd hs hc hn hk hm ht => exact ⟨p, L.quiet hl' _ rfl rfl rfl fun v' g h1 h2 => by cases h2⟩
  | looksT s hd hs hc hn hk hm ht => exact ⟨p, L.quiet hl' _ rfl rfl rfl fun v' g h1 h2 => by
      rw [hd] at h1
      cases h1⟩
  | follows s hd hs hc hn hf => exact ⟨p, L.quiet hl' _ rfl rfl rfl fun v' g h1 h2 => by
      rw [hd] at h1
      cases h1⟩
  | exchanges g hd hs hc hn hf =>
    have e' : (m.strayed || m.links.getD (m.top - 1) 0 != g) = false := e
    rw [Bool.or_eq_false_iff] at e'
    have ek : m.links.getD (m.top - 1) 0 = g := by simpa using e'.2
    have t0 : m.top ≠ 0 := by have := K.popC _ hd hs; omega
    obtain ⟨p', _, L'⟩ := L.didPop (b := m.strayed || m.links.getD (m.top - 1) 0 != g) hl' hd hc t0 ek
    exact ⟨p', L'⟩
  | missP s g hd hs hc hn hf hx => exact ⟨p, L.quiet hl' _ rfl rfl rfl fun v' g h1 h2 => by cases h2⟩
theorem pile0_mem : ∀ (n : Nat) {x : Nat}, 1 ≤ x → x ≤ n → x ∈ pile0 n
  | 0, x, h1, h2 => by omega
  | n + 1, x, h1, h2 => by
    by_cases e : x = n + 1
    · rw [e]
      exact List.mem_cons_self
    · exact List.mem_cons_of_mem _ (pile0_mem n h1 (by omega))
theorem begin_hd (values : List Int) (ps : List (List Deed)) (r : Rule) (j : Nat) : (M.begin_ values ps r).hd j = {} := by
  unfold M.hd M.begin_
  simp only [List.getD_eq_getElem?_getD, List.getElem?_map]
  cases ps[j]? <;> rfl
theorem Lin.begin_ (values : List Int) (ps : List (List Deed)) (r : Rule) : Lin values (M.begin_ values ps r) (pile0 values.length) := by
  have hd := begin_hd values ps r
  have C := (begin_calm values ps r).1
  refine ⟨C.ll, C.ch, C.nd, C.fd, C.inn, C.fr, fun j z => (by rw [hd j] at z; exact absurd rfl z), fun i j _ z => (by rw [hd i] at z; exact absurd rfl z), fun c h1 h2 => .inl (pile0_mem _ h1 h2), fun j v _ z => (by rw [hd j] at z; exact absurd rfl z), fun j v f _ z => (by rw [hd j] at z; cases z), ?_, fun j => ?_, fun j => ?_⟩
  · have := (begin_calm values ps r).2
    rw [C.values] at this
    exact this
  · rw [hd j, decd_zero rfl]
    rfl
  · unfold M.full
    rw [hd j, pend_zero (by rw [hd j])]
    rfl
theorem Lin.run {values : List Int} {ps : List (List Deed)} {r : Rule} : ∀ {w : List Nat} {m : M} {p : List Nat}, Lin values m p → Fine ps r m → (∀ h ∈ w, h < ps.length) → (m.run w).strayed = false → ∃ p', Lin values (m.run w) p'
  | [], m, p, L, _, _, _ => ⟨p, L⟩
  | h :: w, m, p, L, f, hw, e => by
    have h1 := hw h List.mem_cons_self
    obtain ⟨p1, L1⟩ := L.step f h1 (run_stray (w := w) (m := m.step h) e)
    exact L1.run (f.step h1) (fun x hx => hw x (List.mem_cons_of_mem _ hx)) e
theorem Lin.pile {values : List Int} {m : M} {p : List Nat} (L : Lin values m p) : m.pile = p := by
  have hlen := nodup_len m.worths.length L.nd L.pin
  have hll := L.ll
  unfold M.pile
  rw [pileFrom_chain _ L.ch (by rw [List.nil_append]; exact L.nd) (by omega)]
  rfl
theorem Lin.values {values : List Int} {m : M} {p : List Nat} (L : Lin values m p) : m.pileValues = (serial values m.deeds).2.reverse := by
  unfold M.pileValues
  rw [L.pile, ← L.vals]
  rfl
end SS

set_option linter.all false
/-! By keeps, by marks of all hands, by counts more than the deeds nothing is stale. -/
namespace SS
def total (ps : List (List Deed)) : Nat := (ps.map List.length).sum
def goodRule (ps : List (List Deed)) : Rule → Prop
  | .keeps => True
  | .counts k => total ps < k
  | .marks hs => ∀ j, j < ps.length → j ∈ hs
def cnd (r : Rule) (count : Nat) (lk : Bool) (c : Nat) : Prop :=
  match r with
  | .keeps => True
  | .counts _ => c = count
  | .marks _ => lk = true
def pushX (m : M) (i : Nat) (x : Hd) : Prop := (∃ v, (m.prog i)[x.at_]? = some (.push v)) ∧ x.cell ≠ 0
def popX (m : M) (i : Nat) (x : Hd) : Prop := (m.prog i)[x.at_]? = some .pop
structure Safe (m : M) : Prop where
  new : ∀ j, (m.hd j).seen = none → (m.hd j).follow = none ∧ (m.hd j).looked = false
  off : ∀ j t c, popX m j (m.hd j) → (m.hd j).cell = 0 → (m.hd j).seen = some (t, c) → cnd m.rule m.count (m.hd j).looked c → (∀ i, pushX m i (m.hd i) → (m.hd i).cell ≠ t) ∧ ∀ f, (m.hd j).follow = some f → m.links.getD (t - 1) 0 = f
  cnt : ∀ k, m.rule = .counts k → m.count ≤ m.ends.length ∧ ∀ j t c, (m.hd j).seen = some (t, c) → c ≤ m.count ∧ (c = m.count → t = m.top)
  mrk : ∀ hs, m.rule = .marks hs → ∀ j, popX m j (m.hd j) → (m.hd j).looked = true → ∃ c, (m.hd j).seen = some ((m.hd j).mark, c)
  flw : ∀ hs, m.rule = .marks hs → ∀ j, popX m j (m.hd j) → (m.hd j).cell = 0 → m.rule.named j = true → (m.hd j).follow ≠ none → (m.hd j).looked = true
section
variable {m : M} {h : Nat}
theorem Safe.upd {m1 : M} (S : Safe m) (hl : h < m.hands.length) (x : Hd) (eh : m1.hands = m.hands) (ep : m1.progs = m.progs) (er : m1.rule = m.rule)
    (h1 : x.seen = none → x.follow = none ∧ x.looked = false)
    (h2 : ∀ t c, popX m h x → x.cell = 0 → x.seen = some (t, c) → cnd m.rule m1.count x.looked c → (∀ i, i ≠ h → pushX m i (m.hd i) → (m.hd i).cell ≠ t) ∧ ∀ f, x.follow = some f → m1.links.getD (t - 1) 0 = f)
    (hK : ∀ j t c, j ≠ h → popX m j (m.hd j) → (m.hd j).cell = 0 → (m.hd j).seen = some (t, c) → cnd m.rule m1.count (m.hd j).looked c → cnd m.rule m.count (m.hd j).looked c ∧ ((∀ i, pushX m i (m.hd i) → (m.hd i).cell ≠ t) → m1.links.getD (t - 1) 0 = m.links.getD (t - 1) 0 ∧ (pushX m h x → x.cell ≠ t)))
    (hC : ∀ k, m.rule = .counts k → m1.count ≤ m1.ends.length ∧ (∀ j t c, j ≠ h → (m.hd j).seen = some (t, c) → c ≤ m1.count ∧ (c = m1.count → t = m1.top)) ∧ ∀ t c, x.seen = some (t, c) → c ≤ m1.count ∧ (c = m1.count → t = m1.top))
    (h4 : ∀ hs, m.rule = .marks hs → popX m h x → x.looked = true → ∃ c, x.seen = some (x.mark, c))
    (h5 : ∀ hs, m.rule = .marks hs → popX m h x → x.cell = 0 → m.rule.named h = true → x.follow ≠ none → x.looked = true) : Safe (m1.setH h x) := by
  have H := set_hh (x := x) eh hl
  have N := fun j n => set_hn (x := x) eh hl (j := j) n
  have P : ∀ j, m1.prog j = m.prog j := fun j => by unfold M.prog; rw [ep]
  generalize hm2 : m1.setH h x = m2 at H N ⊢
  have P2 : ∀ j, m2.prog j = m.prog j := fun j => by rw [← hm2]; exact P j
  have er2 : m2.rule = m.rule := by rw [← hm2]; exact er
  have el2 : m2.links = m1.links := by rw [← hm2]; rfl
  have et2 : m2.top = m1.top := by rw [← hm2]; rfl
  have ec2 : m2.count = m1.count := by rw [← hm2]; rfl
  have ee2 : m2.ends = m1.ends := by rw [← hm2]; rfl
  have Pop : ∀ j y, popX m2 j y → popX m j y := fun j y e => by
    unfold popX at e ⊢
    rw [P2] at e
    exact e
  have Pus : ∀ j y, pushX m2 j y → pushX m j y := fun j y e => by
    unfold pushX at e ⊢
    rw [P2] at e
    exact e
  refine ⟨fun j e => ?_, fun j t c hp hc hs hd => ?_, fun k hk => ?_, fun hs hr j hp hlk => ?_, fun hs hr j hp hc hn hf => ?_⟩
  · by_cases z : j = h
    · subst z
      rw [H] at e ⊢
      exact h1 e
    · rw [N j z] at e ⊢
      exact S.new j e
  · have hp := Pop _ _ hp
    rw [er2, ec2] at hd
    rw [el2]
    by_cases z : j = h
    · subst z
      rw [H] at hp hc hs hd ⊢
      obtain ⟨g1, g2⟩ := h2 t c hp hc hs hd
      refine ⟨fun i hi => ?_, g2⟩
      have hi := Pus _ _ hi
      by_cases zi : i = j
      · subst zi
        rw [H] at hi
        obtain ⟨⟨v, hv⟩, _⟩ := hi
        unfold popX at hp
        rw [hp] at hv
        cases hv
      · rw [N i zi] at hi ⊢
        exact g1 i zi hi
    · rw [N j z] at hp hc hs hd ⊢
      obtain ⟨g1, g2⟩ := hK j t c z hp hc hs hd
      obtain ⟨g3, g4⟩ := S.off j t c hp hc hs g1
      obtain ⟨g5, g6⟩ := g2 g3
      refine ⟨fun i hi => ?_, fun f hf => by rw [g5]; exact g4 f hf⟩
      have hi := Pus _ _ hi
      by_cases zi : i = h
      · subst zi
        rw [H] at hi ⊢
        exact g6 hi
      · rw [N i zi] at hi ⊢
        exact g3 i hi
  · rw [er2] at hk
    obtain ⟨g1, g2, g3⟩ := hC k hk
    rw [ec2, ee2, et2]
    refine ⟨g1, fun j t c hs => ?_⟩
    by_cases z : j = h
    · subst z
      rw [H] at hs
      exact g3 t c hs
    · rw [N j z] at hs
      exact g2 j t c z hs
  · have hp := Pop _ _ hp
    rw [er2] at hr
    by_cases z : j = h
    · subst z
      rw [H] at hp hlk ⊢
      exact h4 hs hr hp hlk
    · rw [N j z] at hp hlk ⊢
      exact S.mrk hs hr j hp hlk
  · have hp := Pop _ _ hp
    rw [er2] at hr hn
    by_cases z : j = h
    · subst z
      rw [H] at hp hc hf ⊢
      exact h5 hs hr hp hc hn hf
    · rw [N j z] at hp hc hf ⊢
      exact S.flw hs hr j hp hc hn hf
/-- a hand reads, marks, looks, follows, forgets -/
theorem Safe.quiet (S : Safe m) (hl : h < m.hands.length) (x : Hd) (ea : x.at_ = (m.hd h).at_) (ec : x.cell = (m.hd h).cell)
    (h1 : x.seen = none → x.follow = none ∧ x.looked = false)
    (h2 : ∀ t c, popX m h x → x.cell = 0 → x.seen = some (t, c) → cnd m.rule m.count x.looked c → (∀ i, pushX m i (m.hd i) → (m.hd i).cell ≠ t) ∧ ∀ f, x.follow = some f → m.links.getD (t - 1) 0 = f)
    (h3 : ∀ t c, x.seen = some (t, c) → (m.hd h).seen = some (t, c) ∨ (t = m.top ∧ c = m.count))
    (h4 : ∀ hs, m.rule = .marks hs → popX m h x → x.looked = true → ∃ c, x.seen = some (x.mark, c))
    (h5 : ∀ hs, m.rule = .marks hs → popX m h x → x.cell = 0 → m.rule.named h = true → x.follow ≠ none → x.looked = true) : Safe (m.setH h x) := by
  refine S.upd hl x rfl rfl rfl h1 (fun t c e1 e2 e3 e4 => ⟨fun i _ => (h2 t c e1 e2 e3 e4).1 i, (h2 t c e1 e2 e3 e4).2⟩) (fun j t c n e1 e2 e3 e4 => ⟨e4, fun g => ⟨rfl, fun hp => ?_⟩⟩) (fun k hk => ⟨(S.cnt k hk).1, fun j t c _ => (S.cnt k hk).2 j t c, fun t c hs => ?_⟩) h4 h5
  · rw [ec]
    refine g h ?_
    unfold pushX at hp ⊢
    rw [ea, ec] at hp
    exact hp
  · rcases h3 t c hs with y | ⟨y1, y2⟩
    · exact (S.cnt k hk).2 h t c y
    · exact ⟨Nat.le_of_eq y2, fun _ => y1⟩
/-- a hand ends a deed or lets a cell go: top, count, nexts stand -/
theorem Safe.ended {m1 : M} (S : Safe m) (hl : h < m.hands.length) (a : Ans) (eh : m1.hands = m.hands) (ep : m1.progs = m.progs) (er : m1.rule = m.rule) (el : m1.links = m.links) (et : m1.top = m.top) (ec : m1.count = m.count) (ee : m.ends.length ≤ m1.ends.length) : Safe (m1.setH h ((m.hd h).ended a)) := by
  refine S.upd hl _ eh ep er (fun _ => ⟨rfl, rfl⟩) (fun t c _ _ e _ => by cases e) (fun j t c n e1 e2 e3 e4 => ⟨by rw [ec] at e4; exact e4, fun g => ⟨by rw [el], fun hp => absurd rfl hp.2⟩⟩) (fun k hk => ⟨by rw [ec]; exact Nat.le_trans (S.cnt k hk).1 ee, fun j t c _ => by rw [ec, et]; exact (S.cnt k hk).2 j t c, fun t c e => by cases e⟩) (fun _ _ _ e => by cases e) (fun _ _ _ _ _ e => absurd rfl e)
theorem turned_eq {k : Nat} (hr : m.rule = .counts k) (hk : m.count + 1 < k) : m.turned = m.count + 1 := by
  unfold M.turned
  rw [hr]
  exact Nat.mod_eq_of_lt hk
/-- an exchange: whoever has read the top by counts has missed it -/
theorem Safe.exch {m1 : M} (S : Safe m) (hl : h < m.hands.length) (x : Hd) (eh : m1.hands = m.hands) (ep : m1.progs = m.progs) (er : m1.rule = m.rule) (el : m1.links = m.links) (ec : m1.count = m.turned) (ee : m1.ends.length = m.ends.length + 1)
    (hk : ∀ k, m.rule = .counts k → m.count + 1 < k) (hx : x.seen = none ∨ x.seen = (m.hd h).seen) (h1 : x.seen = none → x.follow = none ∧ x.looked = false) (h2 : popX m h x → x.seen ≠ none → x.cell ≠ 0) (h6 : ¬ pushX m h x)
    (h4 : ∀ hs, m.rule = .marks hs → popX m h x → x.looked = true → ∃ c, x.seen = some (x.mark, c)) : Safe (m1.setH h x) := by
  have old : ∀ k, m.rule = .counts k → ∀ j t c, (m.hd j).seen = some (t, c) → c < m1.count := fun k hr j t c e => by
    have := (S.cnt k hr).2 j t c e
    rw [ec, turned_eq hr (hk k hr)]
    omega
  have keep : ∀ j c t, (m.hd j).seen = some (t, c) → cnd m.rule m1.count (m.hd j).looked c → cnd m.rule m.count (m.hd j).looked c := fun j c t e1 e2 => by
    cases er : m.rule with
    | keeps => trivial
    | marks hs =>
      rw [er] at e2
      exact e2
    | counts k =>
      rw [er] at e2
      have e2' : c = m1.count := e2
      have := old k er j t c e1
      omega
  have seenx : ∀ t c, x.seen = some (t, c) → (m.hd h).seen = some (t, c) := fun t c e => by
    rcases hx with z | z
    · rw [z] at e
      cases e
    · rw [← z]
      exact e
  refine S.upd hl x eh ep er h1 (fun t c e1 e2 e3 e4 => absurd e2 (h2 e1 (by rw [e3]; simp))) (fun j t c n e1 e2 e3 e4 => ⟨keep j c t e3 e4, fun g => ⟨by rw [el], fun hp => absurd hp h6⟩⟩) (fun k hr => ⟨?_, fun j t c _ e => ?_, fun t c e => ?_⟩) h4 (fun hs _ e1 e2 _ e3 => ?_)
  · rw [ec, turned_eq hr (hk k hr), ee]
    exact Nat.succ_le_succ (S.cnt k hr).1
  · have := old k hr j t c e
    exact ⟨by omega, fun z => by omega⟩
  · have := old k hr h t c (seenx t c e)
    exact ⟨by omega, fun z => by omega⟩
  · cases es : x.seen with
    | none => exact absurd (h1 es).1 e3
    | some s => exact absurd e2 (h2 e1 (by rw [es]; simp))
end
theorem total_eq (ps : List (List Deed)) : total ps = sumTo (fun j => (ps.getD j []).length) ps.length := by
  unfold total
  induction ps with
  | nil => rfl
  | cons p ps ih =>
    have go : ∀ (f : Nat → Nat) n, sumTo f (n + 1) = f 0 + sumTo (fun i => f (i + 1)) n := by
      intro f n
      induction n with
      | zero => simp [sumTo]
      | succ n ih2 =>
        show sumTo f (n + 1) + f (n + 1) = f 0 + (sumTo (fun i => f (i + 1)) n + f (n + 1))
        rw [ih2]
        omega
    rw [List.map_cons, List.sum_cons, ih, List.length_cons, go]
    rfl
theorem Fine.ends_le {ps : List (List Deed)} {r : Rule} {m : M} (f : Fine ps r m) : m.ends.length ≤ total ps := by
  have h1 := f.good.el
  have h2 : sumTo (fun i => decd (m.prog i) (m.hd i)) m.hands.length ≤ sumTo (fun j => (ps.getD j []).length) m.hands.length := sumTo_le fun i _ => by
    have := (f.hand i).dec_le
    unfold M.prog at this ⊢
    rw [f.progs] at this ⊢
    exact this
  rw [total_eq, ← f.hn]
  omega
/-- by a rule that is good a step leaves all safe, and nothing is stale -/
theorem Safe.step {values : List Int} {ps : List (List Deed)} {r : Rule} {m : M} {p : List Nat} {h : Nat} (S : Safe m) (L : Lin values m p) (f : Fine ps r m) (g : goodRule ps r) (hl : h < ps.length) : Safe (m.step h) ∧ (m.step h).strayed = m.strayed := by
  have hl' : h < m.hands.length := by rw [f.hn]; exact hl
  have K := f.hand h
  have fe := (f.step hl).ends_le
  have hr := f.rule
  -- the top lies in no hand that pushes
  have top_off : m.top ≠ 0 → ∀ i, pushX m i (m.hd i) → (m.hd i).cell ≠ m.top := fun t0 i hi e => by
    have := (L.cin i hi.2).2.1
    rw [e] at this
    refine this ?_
    have ch := L.ch
    cases p with
    | nil => exact absurd ch t0
    | cons c p =>
      obtain ⟨e2, _⟩ := ch
      rw [e2]
      exact List.mem_cons_self
  have top_in : m.top ≠ 0 → m.top ∈ p := fun t0 => by
    have ch := L.ch
    cases p with
    | nil => exact absurd ch t0
    | cons c p =>
      obtain ⟨e2, _⟩ := ch
      rw [e2]
      exact List.mem_cons_self
  have nopop : ∀ {v : Int}, (m.prog h)[(m.hd h).at_]? = some (.push v) → ¬ popX m h (m.hd h) := fun e z => by
    unfold popX at z
    rw [e] at z
    cases z
  have mv := move m h
  generalize (m.turn h).1 = t at mv
  generalize hm' : m.step h = m' at mv fe
  cases mv with
  | rests hd => exact ⟨S, rfl⟩
  | takesF v c hd hc hp =>
    refine ⟨?_, rfl⟩
    obtain ⟨c1, c2, c3⟩ := L.fin c (pick_mem hp)
    have nk : m.rule ≠ .keeps := fun z => by
      unfold pick at hp
      rw [if_pos z] at hp
      cases hp
    have nm : c ∉ m.marked := fun z => by
      unfold pick at hp
      rw [if_neg nk] at hp
      have := List.find?_some hp
      simp [z] at this
    refine S.upd hl' _ rfl rfl rfl (S.new h) (fun t c' e _ _ _ => absurd e (nopop hd)) (fun j t c' n e1 e2 e3 e4 => ⟨e4, fun _ => ⟨rfl, fun _ e => ?_⟩⟩) (fun k hk => ⟨(S.cnt k hk).1, fun j t c _ => (S.cnt k hk).2 j t c, fun t c => (S.cnt k hk).2 h t c⟩) (fun hs _ e => absurd e (nopop hd)) (fun hs _ e => absurd e (nopop hd))
    have e : c = t := e
    subst e
    cases er : m.rule with
    | keeps => exact nk er
    | counts k =>
      rw [er] at e4
      have e4' : c' = m.count := e4
      have et := ((S.cnt k er).2 j c c' e3).2 e4'
      exact c3 (by rw [et]; exact top_in (by omega))
    | marks hs =>
      rw [er] at e4
      obtain ⟨c'', e5⟩ := S.mrk hs er j e1 e4
      rw [e3] at e5
      have e6 : c = (m.hd j).mark := congrArg (·.1) (Option.some.inj e5)
      refine nm ?_
      unfold M.marked
      rw [List.mem_filter]
      refine ⟨List.mem_map.mpr ⟨m.hd j, ?_, e6.symm⟩, by simpa using (by omega : c ≠ 0)⟩
      by_cases hj : j < m.hands.length
      · unfold M.hd
        rw [List.getD_eq_getElem?_getD, List.getElem?_eq_getElem hj]
        exact List.getElem_mem hj
      · exfalso
        have e0 : m.hd j = {} := by
          unfold M.hd
          rw [List.getD_eq_getElem?_getD, List.getElem?_eq_none (by omega)]
          rfl
        rw [e0] at e3
        cases e3
  | takesN v hd hc hp =>
    refine ⟨?_, rfl⟩
    have hll := L.ll
    refine S.upd hl' _ rfl rfl rfl (S.new h) (fun t c' e _ _ _ => absurd e (nopop hd)) (fun j t c' n e1 e2 e3 e4 => ⟨e4, fun _ => ?_⟩) (fun k hk => ⟨(S.cnt k hk).1, fun j t c _ => (S.cnt k hk).2 j t c, fun t c => (S.cnt k hk).2 h t c⟩) (fun hs _ e => absurd e (nopop hd)) (fun hs _ e => absurd e (nopop hd))
    have tl : t ≤ m.worths.length := (f.hand j).seen _ e3
    have t1 : 1 ≤ t := (f.hand j).popC _ e1 e3
    refine ⟨by show (m.links ++ [0]).getD (t - 1) 0 = _; rw [getD_app (by omega)], fun _ e => ?_⟩
    have e : m.worths.length + 1 = t := e
    omega
  | readsQ v hd hc hs =>
    have hx : m.hd h = m.hd h := rfl
    obtain ⟨n1, n2⟩ := S.new h hs
    exact ⟨S.quiet hl' _ rfl rfl (fun e => by cases e) (fun t c e => absurd e (nopop hd)) (fun t c e => .inr (by
      have e' := Option.some.inj e
      exact ⟨(congrArg (·.1) e').symm, (congrArg (·.2) e').symm⟩)) (fun hs _ e => absurd e (nopop hd)) (fun hs _ e => absurd e (nopop hd)), rfl⟩
  | readsP hd hs ht =>
    obtain ⟨n1, n2⟩ := S.new h hs
    exact ⟨S.quiet hl' _ rfl rfl (fun e => by cases e) (fun t c _ _ e _ => by
      have e' := Option.some.inj e
      have et : m.top = t := congrArg (·.1) e'
      rw [← et]
      exact ⟨top_off ht, fun f hf => by
        have hf' : (m.hd h).follow = some f := hf
        rw [n1] at hf'
        cases hf'⟩) (fun t c e => .inr (by
      have e' := Option.some.inj e
      exact ⟨(congrArg (·.1) e').symm, (congrArg (·.2) e').symm⟩)) (fun hs _ _ e => by
        have e' : (m.hd h).looked = true := e
        rw [n2] at e'
        cases e') (fun hs _ _ _ _ e => absurd n1 e), rfl⟩
  | empty hd hs ht => exact ⟨S.ended hl' .non rfl rfl rfl rfl rfl rfl (by show _ ≤ (m.ends ++ [_]).length; rw [List.length_append]; omega), rfl⟩
  | links v s hd hc hs hf =>
    refine ⟨?_, rfl⟩
    obtain ⟨c1, c2, c3⟩ := L.cin h hc
    refine S.upd hl' _ rfl rfl rfl (fun e => by have e' : (m.hd h).seen = none := e; rw [hs] at e'; cases e') (fun t c' e _ _ _ => absurd e (nopop hd)) (fun j t c' n e1 e2 e3 e4 => ⟨e4, fun gg => ?_⟩) (fun k hk => ⟨(S.cnt k hk).1, fun j t c _ => (S.cnt k hk).2 j t c, fun t c => (S.cnt k hk).2 h t c⟩) (fun hs _ e => absurd e (nopop hd)) (fun hs _ e => absurd e (nopop hd))
    have ne := gg h ⟨⟨v, hd⟩, hc⟩
    have t1 : 1 ≤ t := (f.hand j).popC _ e1 e3
    refine ⟨?_, fun _ => ne⟩
    show (m.links.set ((m.hd h).cell - 1) s.1).getD (t - 1) 0 = _
    rw [getD_set_ne (by omega)]
  | pushed v g' hd hc hs hf =>
    refine ⟨S.exch hl' _ rfl rfl rfl rfl rfl (by show (m.ends ++ [_]).length = _; rw [List.length_append]; rfl) (fun k hk => ?_) (.inl rfl) (fun _ => ⟨rfl, rfl⟩) (fun _ e => absurd rfl e) (fun e => absurd rfl e.2) (fun _ _ _ e => by cases e), rfl⟩
    have g1 : total ps < k := by rw [hr] at hk; rw [hk] at g; exact g
    have g2 := (S.cnt k hk).1
    have g3 : m.ends.length + 1 ≤ total ps := by
      have fe' : (m.ends ++ [(h, (m.hd h).at_)]).length ≤ total ps := fe
      rw [List.length_append] at fe'
      exact fe'
    omega
  | missQ v s g' hd hc hs hf hn => exact ⟨S.quiet hl' _ rfl rfl (fun _ => ⟨rfl, rfl⟩) (fun t c _ _ e => by cases e) (fun t c e => by cases e) (fun _ _ _ e => by cases e) (fun _ _ _ _ _ e => absurd rfl e), rfl⟩
  | popped s hd hs hc => exact ⟨S.ended hl' _ rfl rfl rfl rfl rfl rfl (Nat.le_refl _), rfl⟩
  | marks s hd hs hc hn hk hm =>
    refine ⟨S.quiet hl' _ rfl rfl (S.new h) (fun t c e1 e2 e3 e4 => S.off h t c e1 e2 e3 e4) (fun t c e => .inl e) (fun hs' _ _ e => ?_) (fun hs' er e1 e2 e3 e4 => S.flw hs' er h e1 e2 e3 e4), rfl⟩
    have e' : (m.hd h).looked = true := e
    rw [hk] at e'
    cases e'
  | looksF s hd hs hc hn hk hm ht => exact ⟨S.quiet hl' _ rfl rfl (fun _ => ⟨rfl, rfl⟩) (fun t c _ _ e => by cases e) (fun t c e => by cases e) (fun _ _ _ e => by cases e) (fun _ _ _ _ _ e => absurd rfl e), rfl⟩
  | looksT s hd hs hc hn hk hm ht =>
    have isM : ∃ hs', m.rule = .marks hs' := by
      unfold Rule.named at hn
      cases er : m.rule with
      | marks hs' => exact ⟨hs', rfl⟩
      | keeps => rw [er] at hn; cases hn
      | counts k => rw [er] at hn; cases hn
    obtain ⟨hs', er⟩ := isM
    have s1 := K.popC _ hd hs
    have nf : (m.hd h).follow = none := by
      apply Classical.byContradiction
      intro z
      have := S.flw hs' er h hd hc hn z
      rw [hk] at this
      cases this
    refine ⟨S.quiet hl' _ rfl rfl (fun e => by have e' : (m.hd h).seen = none := e; rw [hs] at e'; cases e') (fun t c e1 e2 e3 e4 => ?_) (fun t c e => .inl e) (fun hs' _ _ _ => ⟨s.2, ?_⟩) (fun hs' er e1 e2 e3 e4 => rfl), rfl⟩
    · have e3' : (m.hd h).seen = some (t, c) := e3
      rw [hs] at e3'
      have es : s = (t, c) := Option.some.inj e3'
      have et : m.top = t := by rw [ht, es]
      rw [← et]
      refine ⟨top_off (by omega), fun f hf => ?_⟩
      have hf' : (m.hd h).follow = some f := hf
      rw [nf] at hf'
      cases hf'
    · show (m.hd h).seen = some ((m.hd h).mark, s.2)
      rw [hm, hs]
  | follows s hd hs hc hn hf =>
    refine ⟨S.quiet hl' _ rfl rfl (fun e => by have e' : (m.hd h).seen = none := e; rw [hs] at e'; cases e') (fun t c e1 e2 e3 e4 => ⟨(S.off h t c e1 e2 e3 e4).1, fun f' hf' => ?_⟩) (fun t c e => .inl e) (fun hs' er e1 e2 => S.mrk hs' er h e1 e2) (fun hs' er e1 e2 e3 e4 => ?_), rfl⟩
    · have e3' : (m.hd h).seen = some (t, c) := e3
      rw [hs] at e3'
      have es : s = (t, c) := Option.some.inj e3'
      have : m.links.getD (s.1 - 1) 0 = f' := Option.some.inj hf'
      rw [es] at this
      exact this
    · apply Classical.byContradiction
      intro z
      refine hn ⟨e3, ?_⟩
      have z' : ¬ (m.hd h).looked = true := z
      cases e : (m.hd h).looked with
      | true => exact absurd e z'
      | false => rfl
  | exchanges g' hd hs hc hn hf =>
    have t0 := K.popC _ hd hs
    have lkd : ∀ hs', m.rule = .marks hs' → (m.hd h).looked = true := fun hs' er => by
      have nm : m.rule.named h = true := by
        rw [hr] at er
        rw [hr, er]
        rw [er] at g
        unfold Rule.named
        have := g h hl
        simpa using this
      cases e : (m.hd h).looked with
      | true => rfl
      | false => exact absurd ⟨nm, e⟩ hn
    have off := S.off h m.top m.count hd hc hs (by
      unfold cnd
      cases er : m.rule with
      | keeps => trivial
      | counts k => rfl
      | marks hs' => exact lkd hs' er)
    have ek := off.2 g' hf
    refine ⟨?_, ?_⟩
    · refine S.exch hl' _ rfl rfl rfl rfl rfl (by show (m.ends ++ [_]).length = _; rw [List.length_append]; rfl) (fun k hk => ?_) (.inr rfl) (fun e => by have e' : (m.hd h).seen = none := e; rw [hs] at e'; cases e') (fun _ _ => by show m.top ≠ 0; omega) (fun e => ?_) (fun hs' er e1 e2 => S.mrk hs' er h e1 e2)
      · have g1 : total ps < k := by rw [hr] at hk; rw [hk] at g; exact g
        have g2 := (S.cnt k hk).1
        have g3 : m.ends.length + 1 ≤ total ps := by
          have fe' : (m.ends ++ [(h, (m.hd h).at_)]).length ≤ total ps := fe
          rw [List.length_append] at fe'
          exact fe'
        omega
      · obtain ⟨⟨v, hv⟩, _⟩ := e
        have hv' : (m.prog h)[(m.hd h).at_]? = some (.push v) := hv
        rw [hd] at hv'
        cases hv'
    · show (m.strayed || m.links.getD (m.top - 1) 0 != g') = m.strayed
      rw [ek]
      simp
  | missP s g' hd hs hc hn hf hx => exact ⟨S.quiet hl' _ rfl rfl (fun _ => ⟨rfl, rfl⟩) (fun t c _ _ e => by cases e) (fun t c e => by cases e) (fun _ _ _ e => by cases e) (fun _ _ _ _ _ e => absurd rfl e), rfl⟩
theorem Safe.begin_ (values : List Int) (ps : List (List Deed)) (r : Rule) : Safe (M.begin_ values ps r) := by
  have hd := begin_hd values ps r
  refine ⟨fun j _ => by rw [hd j]; exact ⟨rfl, rfl⟩, fun j t c _ _ e => (by rw [hd j] at e; cases e), fun k _ => ⟨Nat.le_refl _, fun j t c e => (by rw [hd j] at e; cases e)⟩, fun hs _ j _ e => (by rw [hd j] at e; cases e), fun hs _ j _ _ _ e => (by rw [hd j] at e; exact absurd rfl e)⟩
theorem Safe.run {values : List Int} {ps : List (List Deed)} {r : Rule} (g : goodRule ps r) : ∀ {w : List Nat} {m : M} {p : List Nat}, Safe m → Lin values m p → Fine ps r m → m.strayed = false → (∀ h ∈ w, h < ps.length) → (m.run w).strayed = false ∧ Safe (m.run w) ∧ ∃ p', Lin values (m.run w) p'
  | [], m, p, S, L, _, e, _ => ⟨e, S, p, L⟩
  | h :: w, m, p, S, L, f, e, hw => by
    have h1 := hw h List.mem_cons_self
    obtain ⟨S1, e1⟩ := S.step L f g h1
    have e2 : (m.step h).strayed = false := by rw [e1]; exact e
    obtain ⟨p1, L1⟩ := L.step f h1 e2
    exact S1.run g (w := w) (m := m.step h) L1 (f.step h1) e2 fun x hx => hw x (List.mem_cons_of_mem _ hx)
/-- a good rule: never stale -/
theorem never {values : List Int} {ps : List (List Deed)} {r : Rule} (ok : okIn values ps r) (g : goodRule ps r) {w : List Nat} (hw : ∀ h ∈ w, h < ps.length) : ((M.begin_ values ps r).run w).strayed = false :=
  (Safe.run g (Safe.begin_ values ps r) (Lin.begin_ values ps r) (Fine.begin_ ok) rfl hw).1
/-- whole is a run, too -/
theorem finish_run : ∀ (n : Nat) (m : M), ∃ w : List Nat, M.finish n m = m.run w ∧ ∀ h ∈ w, h < m.hands.length
  | 0, m => ⟨[], rfl, fun _ h => by cases h⟩
  | n + 1, m => by
    unfold M.finish
    split
    · exact ⟨[], rfl, fun _ h => by cases h⟩
    · obtain ⟨w, e, hw⟩ := finish_run n m.round
      have el : m.round.hands.length = m.hands.length := by
        have go : ∀ (w : List Nat) (m : M), (m.run w).hands.length = m.hands.length := by
          intro w
          induction w with
          | nil => intro m; rfl
          | cons h w ih =>
            intro m
            have := ih (m.step h)
            exact this.trans (step_progs m h).2.2.1
        exact go _ m
      refine ⟨List.range m.hands.length ++ w, ?_, fun h hh => ?_⟩
      · rw [run_append]
        exact e
      · rcases List.mem_append.mp hh with z | z
        · exact List.mem_range.mp z
        · rw [← el]
          exact hw h z
theorem whole_run {values : List Int} {ps : List (List Deed)} {r : Rule} {w : List Nat} (hw : ∀ h ∈ w, h < ps.length) (ok : okIn values ps r) : ∃ w' : List Nat, wholeM values ps r w = (M.begin_ values ps r).run (w ++ w') ∧ ∀ h ∈ w ++ w', h < ps.length := by
  obtain ⟨w', e, h'⟩ := finish_run 1000 ((M.begin_ values ps r).run w)
  refine ⟨w', ?_, fun h hh => ?_⟩
  · rw [run_append]
    exact e
  · rcases List.mem_append.mp hh with z | z
    · exact hw h z
    · rw [← ((Fine.begin_ ok).run hw).hn]
      exact h' h z
end SS

set_option linter.all false
/-! Each cell once. -/
namespace SS
def M.heldL (m : M) : List Nat := (m.hands.map (·.cell)).filter fun c => decide (0 < c)
theorem held_nodup : ∀ (hs : List Hd), (∀ (i j : Nat) (x y : Hd), i ≠ j → hs[i]? = some x → hs[j]? = some y → x.cell ≠ 0 → x.cell ≠ y.cell) → ((hs.map (·.cell)).filter fun c => decide (0 < c)).Nodup
  | [], _ => List.nodup_nil
  | x :: hs, h => by
    have ih := held_nodup hs fun i j a b n e1 e2 => h (i + 1) (j + 1) a b (by omega) (by simpa using e1) (by simpa using e2)
    rw [List.map_cons, List.filter_cons]
    split
    · next hx =>
      have hx' : x.cell ≠ 0 := by
        have := of_decide_eq_true hx
        omega
      refine List.nodup_cons.mpr ⟨fun hm => ?_, ih⟩
      obtain ⟨hm1, _⟩ := List.mem_filter.mp hm
      obtain ⟨y, hy, e⟩ := List.mem_map.mp hm1
      obtain ⟨j, hj⟩ := List.mem_iff_getElem?.mp hy
      exact h 0 (j + 1) x y (by omega) rfl (by simpa using hj) hx' e.symm
    · exact ih
theorem hd_of {m : M} {i : Nat} {x : Hd} (h : m.hands[i]? = some x) : m.hd i = x := by
  unfold M.hd
  rw [List.getD_eq_getElem?_getD, h]
  rfl
theorem hd_cell_mem {m : M} {j : Nat} (h : (m.hd j).cell ≠ 0) : (m.hd j).cell ∈ m.heldL := by
  unfold M.heldL
  rw [List.mem_filter]
  refine ⟨List.mem_map.mpr ⟨m.hd j, ?_, rfl⟩, decide_eq_true (by omega)⟩
  by_cases hj : j < m.hands.length
  · unfold M.hd
    rw [List.getD_eq_getElem?_getD, List.getElem?_eq_getElem hj]
    exact List.getElem_mem hj
  · exfalso
    apply h
    unfold M.hd
    rw [List.getD_eq_getElem?_getD, List.getElem?_eq_none (by omega)]
    rfl
theorem held_mem {m : M} {c : Nat} (h : c ∈ m.heldL) : ∃ j, j < m.hands.length ∧ (m.hd j).cell = c ∧ c ≠ 0 := by
  unfold M.heldL at h
  obtain ⟨h1, h2⟩ := List.mem_filter.mp h
  obtain ⟨x, hx, e⟩ := List.mem_map.mp h1
  obtain ⟨j, hj⟩ := List.mem_iff_getElem?.mp hx
  have := of_decide_eq_true h2
  exact ⟨j, (List.getElem?_eq_some_iff.mp hj).1, by rw [hd_of hj]; exact e, by omega⟩
theorem Lin.held {values : List Int} {m : M} {p : List Nat} (L : Lin values m p) : m.heldL.Nodup := by
  refine held_nodup _ fun i j x y n e1 e2 => ?_
  have := L.cne i j n
  rw [hd_of e1, hd_of e2] at this
  exact this
/-- pile, free cells, cells in hands: all cells, each once -/
theorem Lin.cells {values : List Int} {m : M} {p : List Nat} (L : Lin values m p) : (p ++ m.freed ++ m.heldL).Perm ((List.range m.worths.length).map (· + 1)) := by
  have nd1 : (p ++ m.freed ++ m.heldL).Nodup := by
    rw [List.nodup_append, List.nodup_append]
    refine ⟨⟨L.nd, L.fd, fun a ha b hb e => ?_⟩, L.held, fun a ha b hb e => ?_⟩
    · subst e
      exact (L.fin a hb).2.2 ha
    · subst e
      obtain ⟨j, _, hj, h0⟩ := held_mem hb
      obtain ⟨_, g2, g3⟩ := L.cin j (by rw [hj]; exact h0)
      rw [hj] at g2 g3
      rcases List.mem_append.mp ha with z | z
      · exact g2 z
      · exact g3 z
  have nd2 : ((List.range m.worths.length).map (· + 1)).Nodup := by
    rw [List.nodup_iff_pairwise_ne, List.pairwise_map]
    exact List.nodup_range.imp fun h e => h (by omega)
  rw [List.perm_ext_iff_of_nodup nd1 nd2]
  intro c
  constructor
  · intro h
    have : 1 ≤ c ∧ c ≤ m.worths.length := by
      rcases List.mem_append.mp h with z | z
      · rcases List.mem_append.mp z with z | z
        · exact L.pin c z
        · exact ⟨(L.fin c z).1, (L.fin c z).2.1⟩
      · obtain ⟨j, _, hj, h0⟩ := held_mem z
        have := (L.cin j (by rw [hj]; exact h0)).1
        omega
    exact List.mem_map.mpr ⟨c - 1, List.mem_range.mpr (by omega), by omega⟩
  · intro h
    obtain ⟨i, hi, e⟩ := List.mem_map.mp h
    have hi' := List.mem_range.mp hi
    rcases L.cov c (by omega) (by omega) with z | z | ⟨j, z⟩
    · exact List.mem_append_left _ (List.mem_append_left _ z)
    · exact List.mem_append_left _ (List.mem_append_right _ z)
    · refine List.mem_append_right _ ?_
      rw [← z]
      exact hd_cell_mem (by omega)
theorem Lin.sorted {values : List Int} {m : M} {p : List Nat} (L : Lin values m p) {ns : List Int} (h1 : ns.Perm ((p ++ m.freed ++ m.heldL).map Int.ofNat)) (h2 : ns.Pairwise (· ≤ ·)) : ns = (List.range m.worths.length).map fun i => (1 : Int) + (i : Nat) := by
  have h3 := h1.trans (L.cells.map Int.ofNat)
  rw [List.map_map] at h3
  have e : ((List.range m.worths.length).map (Int.ofNat ∘ fun x => x + 1)) = (List.range m.worths.length).map fun i => (1 : Int) + (i : Nat) := by
    refine List.map_congr_left fun i _ => ?_
    show ((i + 1 : Nat) : Int) = 1 + (i : Int)
    omega
  rw [e] at h3
  refine List.Perm.eq_of_pairwise (le := (· ≤ ·)) (fun a b _ _ h h' => Int.le_antisymm h h') h2 ?_ h3
  rw [List.pairwise_map]
  exact List.pairwise_lt_range.imp fun h => by omega
end SS

set_option linter.all false
/-! The order in which deeds are decided; what is lost, what not. -/
namespace SS
/-- each deed of a hand is decided once, in its order; a push is answered done, a pop never -/
structure Ordn (m : M) : Prop where
  ord : ∀ j, m.ends.filter (fun e => e.1 == j) = (List.range (decd (m.prog j) (m.hd j))).map fun k => (j, k)
  fst : ∀ e ∈ m.ends, e.1 < m.hands.length
  word : ∀ (j k : Nat) (a : Ans), (m.hd j).said[k]? = some a → ∃ d : Deed, (m.prog j)[k]? = some d ∧ ((∃ v, d = Deed.push v) ↔ a = Ans.done)
theorem word_snoc {p : List Deed} {x : Hd} {a : Ans} {d : Deed} (hs : x.said.length = x.at_) (w : ∀ (k : Nat) (b : Ans), x.said[k]? = some b → ∃ d : Deed, p[k]? = some d ∧ ((∃ v, d = Deed.push v) ↔ b = Ans.done)) (hd : p[x.at_]? = some d) (hw : (∃ v, d = Deed.push v) ↔ a = Ans.done) :
    ∀ (k : Nat) (b : Ans), (x.ended a).said[k]? = some b → ∃ d : Deed, p[k]? = some d ∧ ((∃ v, d = Deed.push v) ↔ b = Ans.done) := by
  intro k b h
  have h' : (x.said ++ [a])[k]? = some b := h
  rw [List.getElem?_append] at h'
  split at h'
  · exact w k b h'
  · next hk =>
    have hk1 : k - x.said.length < 1 := by
      have := (List.getElem?_eq_some_iff.mp h').1
      simpa using this
    have ek : k = x.at_ := by omega
    subst ek
    rw [hs, Nat.sub_self] at h'
    have eb : a = b := by simpa using h'
    subst eb
    exact ⟨d, hd, hw⟩
theorem Ordn.upd {m m1 : M} {h : Nat} {x : Hd} (O : Ordn m) (hl : h < m.hands.length) (eh : m1.hands = m.hands) (ep : m1.progs = m.progs)
    (he : (m1.ends = m.ends ∧ decd (m.prog h) x = decd (m.prog h) (m.hd h)) ∨ (m1.ends = m.ends ++ [(h, (m.hd h).at_)] ∧ decd (m.prog h) (m.hd h) = (m.hd h).at_ ∧ decd (m.prog h) x = (m.hd h).at_ + 1))
    (hw : ∀ (k : Nat) (b : Ans), x.said[k]? = some b → ∃ d : Deed, (m.prog h)[k]? = some d ∧ ((∃ v, d = Deed.push v) ↔ b = Ans.done)) : Ordn (m1.setH h x) := by
  have H := set_hh (x := x) eh hl
  have N := fun j n => set_hn (x := x) eh hl (j := j) n
  have P : ∀ j, (m1.setH h x).prog j = m.prog j := fun j => by show m1.progs.getD j [] = m.progs.getD j []; rw [ep]
  have E : (m1.setH h x).ends = m1.ends := rfl
  have L : (m1.setH h x).hands.length = m.hands.length := by rw [M.setH_len, eh]
  generalize m1.setH h x = m2 at H N P E L ⊢
  have dn : ∀ j, j ≠ h → decd (m2.prog j) (m2.hd j) = decd (m.prog j) (m.hd j) := fun j n => by rw [P, N j n]
  have dh : decd (m2.prog h) (m2.hd h) = decd (m.prog h) x := by rw [P, H]
  refine ⟨fun j => ?_, fun e hm => ?_, fun j k a hs => ?_⟩
  · rcases he with ⟨e1, e2⟩ | ⟨e1, e2, e3⟩
    · rw [E, e1, O.ord j]
      by_cases z : j = h
      · subst z
        rw [dh, e2]
      · rw [dn j z]
    · rw [E, e1]
      exact ord_snoc (d := fun j => decd (m.prog j) (m.hd j)) (d' := fun j => decd (m2.prog j) (m2.hd j)) O.ord e2 (by show decd (m2.prog h) (m2.hd h) = _; rw [dh]; exact e3) (fun j n => dn j n) j
  · rw [E] at hm
    rw [L]
    rcases he with ⟨e1, _⟩ | ⟨e1, _⟩
    · rw [e1] at hm
      exact O.fst e hm
    · rw [e1] at hm
      rcases List.mem_append.mp hm with z | z
      · exact O.fst e z
      · have : e = (h, (m.hd h).at_) := by simpa using z
        rw [this]
        exact hl
  · by_cases z : j = h
    · subst z
      rw [H] at hs
      rw [P]
      exact hw k a hs
    · rw [N j z] at hs
      rw [P]
      exact O.word j k a hs
theorem Ordn.step {ps : List (List Deed)} {r : Rule} {m : M} {h : Nat} (O : Ordn m) (f : Fine ps r m) (hl : h < ps.length) : Ordn (m.step h) := by
  have hl' : h < m.hands.length := by rw [f.hn]; exact hl
  have K := f.hand h
  have W := O.word h
  have mv := move m h
  generalize (m.turn h).1 = t at mv
  generalize hm' : m.step h = m' at mv
  have q : ∀ (m1 : M) (x : Hd), m1.hands = m.hands → m1.progs = m.progs → m1.ends = m.ends → x.at_ = (m.hd h).at_ → x.cell = (m.hd h).cell → x.said = (m.hd h).said → Ordn (m1.setH h x) := fun m1 x e1 e2 e3 a c s => O.upd hl' e1 e2 (.inl ⟨e3, decd_eq a c⟩) (by rw [s]; exact W)
  cases mv with
  | rests hd => exact O
  | takesF v c hd hc hp => exact O.upd hl' rfl rfl (.inl ⟨rfl, by rw [decd_push hd, decd_push (x := { m.hd h with cell := c }) hd]⟩) W
  | takesN v hd hc hp => exact O.upd hl' rfl rfl (.inl ⟨rfl, by rw [decd_push hd, decd_push (x := { m.hd h with cell := m.worths.length + 1 }) hd]⟩) W
  | readsQ v hd hc hs => exact q _ _ rfl rfl rfl rfl rfl rfl
  | readsP hd hs ht => exact q _ _ rfl rfl rfl rfl rfl rfl
  | empty hd hs ht =>
    have hc : (m.hd h).cell = 0 := by
      apply Classical.byContradiction
      exact fun z => K.popS hd z hs
    exact O.upd hl' rfl rfl (.inr ⟨rfl, decd_zero hc, decd_ended⟩) (word_snoc K.said W hd ⟨fun ⟨v, e⟩ => (by cases e), fun e => (by cases e)⟩)
  | links v s hd hc hs hf => exact q _ _ rfl rfl rfl rfl rfl rfl
  | pushed v g hd hc hs hf => exact O.upd hl' rfl rfl (.inr ⟨rfl, decd_push hd, decd_ended⟩) (word_snoc K.said W hd ⟨fun _ => rfl, fun _ => ⟨v, rfl⟩⟩)
  | missQ v s g hd hc hs hf hn => exact q _ _ rfl rfl rfl rfl rfl rfl
  | popped s hd hs hc => exact O.upd hl' rfl rfl (.inl ⟨rfl, by rw [decd_pop hd hc, decd_ended]⟩) (word_snoc K.said W hd ⟨fun ⟨v, e⟩ => (by cases e), fun e => (by cases e)⟩)
  | marks s hd hs hc hn hk hm => exact q _ _ rfl rfl rfl rfl rfl rfl
  | looksF s hd hs hc hn hk hm ht => exact q _ _ rfl rfl rfl rfl rfl rfl
  | looksT s hd hs hc hn hk hm ht => exact q _ _ rfl rfl rfl rfl rfl rfl
  | follows s hd hs hc hn hf => exact q _ _ rfl rfl rfl rfl rfl rfl
  | exchanges g hd hs hc hn hf =>
    have t0 : m.top ≠ 0 := by have := K.popC _ hd hs; omega
    exact O.upd hl' rfl rfl (.inr ⟨rfl, decd_zero hc, decd_pop (x := { m.hd h with cell := m.top }) hd t0⟩) W
  | missP s g hd hs hc hn hf hx => exact q _ _ rfl rfl rfl rfl rfl rfl
theorem Ordn.begin_ (values : List Int) (ps : List (List Deed)) (r : Rule) : Ordn (M.begin_ values ps r) := by
  have hd := begin_hd values ps r
  refine ⟨fun j => ?_, fun e h => (by cases h), fun j k a h => (by rw [hd j] at h; cases k <;> cases h)⟩
  rw [hd j, decd_zero rfl]
  rfl
theorem Ordn.run {ps : List (List Deed)} {r : Rule} : ∀ {w : List Nat} {m : M}, Ordn m → Fine ps r m → (∀ h ∈ w, h < ps.length) → Ordn (m.run w)
  | [], m, O, _, _ => O
  | h :: w, m, O, f, hw => (O.step f (hw h List.mem_cons_self)).run (f.step (hw h List.mem_cons_self)) fun x hx => hw x (List.mem_cons_of_mem _ hx)
/-- all of a list, hand by hand -/
theorem perm_hands {α : Type} (g : α → Nat) : ∀ (n : Nat) (l : List α), (∀ x ∈ l, g x < n) → l.Perm ((List.range n).flatMap fun j => l.filter fun x => g x == j)
  | 0, l, h => by
    cases l with
    | nil => exact .refl _
    | cons x l => exact absurd (h x List.mem_cons_self) (by omega)
  | n + 1, l, h => by
    rw [List.range_succ, List.flatMap_append]
    have ih := perm_hands g n (l.filter fun x => decide (g x < n)) fun x hx => of_decide_eq_true (List.mem_filter.mp hx).2
    have e1 : ((List.range n).flatMap fun j => (l.filter fun x => decide (g x < n)).filter fun x => g x == j) = (List.range n).flatMap fun j => l.filter fun x => g x == j := by
      rw [List.flatMap_def, List.flatMap_def]
      congr 1
      refine List.map_congr_left fun j hj => ?_
      have hj' := List.mem_range.mp hj
      rw [List.filter_filter]
      refine List.filter_congr fun x _ => ?_
      by_cases e : g x = j
      · rw [e]
        simp [hj']
      · have : (g x == j) = false := beq_eq_false_iff_ne.mpr e
        simp [this]
    rw [e1] at ih
    have e2 : ([n].flatMap fun j => l.filter fun x => g x == j) = l.filter fun x => !decide (g x < n) := by
      simp only [List.flatMap_cons, List.flatMap_nil, List.append_nil]
      refine List.filter_congr fun x hx => ?_
      have := h x hx
      by_cases e : g x = n
      · rw [e]
        simp
      · have h2 : g x < n := by omega
        have : (g x == n) = false := beq_eq_false_iff_ne.mpr e
        rw [this, decide_eq_true h2]
        rfl
    rw [e2]
    exact (List.filter_append_perm (fun x => decide (g x < n)) l).symm.trans (ih.append_right _)
theorem Ordn.full {m : M} (O : Ordn m) {j : Nat} (hr : m.rests j = true) : m.ends.filter (fun e => e.1 == j) = (List.range (m.prog j).length).map fun k => (j, k) := by
  have hat : (m.hd j).at_ = (m.prog j).length := eq_of_beq hr
  have : decd (m.prog j) (m.hd j) = (m.prog j).length := by
    unfold decd
    rw [hat, List.getElem?_eq_none (Nat.le_refl _), if_neg (fun z => by cases z.1)]
    rfl
  rw [O.ord j, this]
def dueOf (ps : List (List Deed)) (n : Nat) : List (Nat × Nat) := (List.range n).flatMap fun j => (List.range (ps.getD j []).length).map fun k => (j, k)
theorem done_rests {m : M} (h : m.isDone = true) {j : Nat} (hj : j < m.hands.length) : m.rests j = true := by
  unfold M.isDone at h
  rw [List.all_eq_true] at h
  exact h j (List.mem_range.mpr hj)
theorem fine_prog {ps : List (List Deed)} {r : Rule} {m : M} (f : Fine ps r m) (j : Nat) : m.prog j = ps.getD j [] := by
  unfold M.prog
  rw [f.progs]
theorem Ordn.due {ps : List (List Deed)} {r : Rule} {m : M} (O : Ordn m) (f : Fine ps r m) (hd : m.isDone = true) : m.ends.Perm (dueOf ps ps.length) := by
  have h := perm_hands (fun e : Nat × Nat => e.1) ps.length m.ends (by rw [← f.hn]; exact O.fst)
  have e : ((List.range ps.length).flatMap fun j => m.ends.filter fun x => x.1 == j) = dueOf ps ps.length := by
    unfold dueOf
    rw [List.flatMap_def, List.flatMap_def]
    congr 1
    refine List.map_congr_left fun j hj => ?_
    have hj' := List.mem_range.mp hj
    rw [O.full (done_rests hd (by rw [f.hn]; exact hj')), fine_prog f]
  rw [e] at h
  exact h
/-! ### pairs in their order -/
def ltN (a b : Nat × Nat) : Prop := a.1 < b.1 ∨ (a.1 = b.1 ∧ a.2 < b.2)
theorem due_sorted (ps : List (List Deed)) : ∀ n, (dueOf ps n).Pairwise ltN ∧ ∀ e ∈ dueOf ps n, e.1 < n
  | 0 => ⟨.nil, fun e h => by cases h⟩
  | n + 1 => by
    obtain ⟨h1, h2⟩ := due_sorted ps n
    have e : dueOf ps (n + 1) = dueOf ps n ++ (List.range (ps.getD n []).length).map fun k => (n, k) := by
      unfold dueOf
      rw [List.range_succ, List.flatMap_append]
      simp
    rw [e]
    refine ⟨?_, fun x hx => ?_⟩
    · rw [List.pairwise_append]
      refine ⟨h1, ?_, fun a ha b hb => ?_⟩
      · rw [List.pairwise_map]
        exact List.pairwise_lt_range.imp fun h => .inr ⟨rfl, h⟩
      · obtain ⟨k, _, rfl⟩ := List.mem_map.mp hb
        exact .inl (h2 a ha)
    · rcases List.mem_append.mp hx with z | z
      · have := h2 x z
        omega
      · obtain ⟨k, _, rfl⟩ := List.mem_map.mp z
        show n < n + 1
        omega
theorem ltN_asymm {a b : Nat × Nat} (h : ltN a b) (h' : ltN b a) : False := by
  unfold ltN at h h'
  omega
theorem leN_antisymm {a b : Nat × Nat} (h : ¬ ltN b a) (h' : ¬ ltN a b) : a = b := by
  unfold ltN at h h'
  have e1 : a.1 = b.1 := by omega
  have e2 : a.2 = b.2 := by omega
  exact Prod.ext e1 e2
/-- sorted is the due order -/
theorem sorted_due {ps : List (List Deed)} {l : List (Nat × Nat)} (h : l.Perm (dueOf ps ps.length)) (hs : l.Pairwise fun a b => ¬ ltN b a) : l = dueOf ps ps.length := by
  refine List.Perm.eq_of_pairwise (le := fun a b => ¬ ltN b a) (fun a b _ _ h h' => leN_antisymm h h') hs ?_ h
  exact (due_sorted ps ps.length).1.imp fun h h' => ltN_asymm h h'
/-! ### nothing is lost -/
def pushes : List Deed → List Int
  | [] => []
  | .push v :: ds => v :: pushes ds
  | .pop :: ds => pushes ds
def valsOf : List Ans → List Int
  | [] => []
  | .val v :: as => v :: valsOf as
  | _ :: as => valsOf as
theorem pushes_app : ∀ a b, pushes (a ++ b) = pushes a ++ pushes b
  | [], b => rfl
  | .push v :: a, b => by show v :: pushes (a ++ b) = v :: (pushes a ++ pushes b); rw [pushes_app a b]
  | .pop :: a, b => pushes_app a b
theorem valsOf_app : ∀ a b, valsOf (a ++ b) = valsOf a ++ valsOf b
  | [], b => rfl
  | .val v :: a, b => by show v :: valsOf (a ++ b) = v :: (valsOf a ++ valsOf b); rw [valsOf_app a b]
  | .non :: a, b => valsOf_app a b
  | .done :: a, b => valsOf_app a b
theorem pushes_perm {a b : List Deed} (h : a.Perm b) : (pushes a).Perm (pushes b) := by
  induction h with
  | nil => exact .refl _
  | cons x _ ih =>
    cases x with
    | push v => exact ih.cons v
    | pop => exact ih
  | swap x y l =>
    cases x <;> cases y
    · exact .refl _
    · exact .refl _
    · exact .refl _
    · exact .swap ..
  | trans _ _ h1 h2 => exact h1.trans h2
theorem valsOf_perm {a b : List Ans} (h : a.Perm b) : (valsOf a).Perm (valsOf b) := by
  induction h with
  | nil => exact .refl _
  | cons x _ ih =>
    cases x with
    | val v => exact ih.cons v
    | non => exact ih
    | done => exact ih
  | swap x y l =>
    cases x <;> cases y <;> first | exact .refl _ | exact .swap ..
  | trans _ _ h1 h2 => exact h1.trans h2
theorem serial_perm (values : List Int) : ∀ ds : List Deed, (values ++ pushes ds).Perm (valsOf (serial values ds).1 ++ (serial values ds).2) := by
  have go : ∀ (l : List Deed), (values ++ pushes l.reverse).Perm (valsOf (serial values l.reverse).1 ++ (serial values l.reverse).2) := by
    intro l
    induction l with
    | nil =>
      show (values ++ []).Perm ([] ++ values)
      rw [List.append_nil]
      exact .refl _
    | cons d l ih =>
      rw [List.reverse_cons, serial_snoc, pushes_app]
      generalize serial values l.reverse = z at ih ⊢
      cases d with
      | push v =>
        show (values ++ (pushes l.reverse ++ [v])).Perm (valsOf (z.1 ++ [.done]) ++ (z.2 ++ [v]))
        rw [valsOf_app, ← List.append_assoc, ← List.append_assoc]
        show (values ++ pushes l.reverse ++ [v]).Perm (valsOf z.1 ++ [] ++ z.2 ++ [v])
        rw [List.append_nil]
        exact ih.append_right _
      | pop =>
        show (values ++ (pushes l.reverse ++ [])).Perm _
        rw [List.append_nil]
        unfold serialStep
        cases e : z.2.getLast? with
        | none =>
          show (values ++ pushes l.reverse).Perm (valsOf (z.1 ++ [.non]) ++ z.2)
          rw [valsOf_app]
          show (values ++ pushes l.reverse).Perm (valsOf z.1 ++ [] ++ z.2)
          rw [List.append_nil]
          exact ih
        | some v =>
          show (values ++ pushes l.reverse).Perm (valsOf (z.1 ++ [.val v]) ++ z.2.dropLast)
          rw [valsOf_app]
          show (values ++ pushes l.reverse).Perm (valsOf z.1 ++ [v] ++ z.2.dropLast)
          have e2 : z.2 = z.2.dropLast ++ [v] := by
            cases hz : z.2 with
            | nil => rw [hz] at e; cases e
            | cons a t =>
              rw [hz] at e
              have := List.dropLast_concat_getLast (l := a :: t) (by simp)
              rw [List.getLast?_eq_some_getLast (by simp)] at e
              rw [← Option.some.inj e]
              exact this.symm
          refine ih.trans ?_
          rw [List.append_assoc]
          refine List.Perm.append_left _ ?_
          rw [e2, List.dropLast_concat]
          exact List.perm_append_comm
  intro ds
  have := go ds.reverse
  rwa [List.reverse_reverse] at this
/-- where all is done, the i-th answer of serial is that of the deed that is the i-th one -/
theorem ans_at {es : List (Nat × Nat)} {as : List Ans} (hl : es.length = as.length) {full : Nat → List Ans} {n : Nat → Nat} (ho : ∀ j, es.filter (fun e => e.1 == j) = (List.range (n j)).map fun k => (j, k)) (ha : ∀ j, ansOf j es as = full j) {i j k : Nat} (hi : es[i]? = some (j, k)) : as[i]? = (full j)[k]? := by
  have hil : i < es.length := (List.getElem?_eq_some_iff.mp hi).1
  obtain ⟨a, hai⟩ : ∃ a, as[i]? = some a := ⟨_, List.getElem?_eq_getElem (by omega)⟩
  have hz : ((j, k), a) ∈ (es.zip as).filter fun e => e.1.1 == j := by
    rw [List.mem_filter]
    refine ⟨List.mem_of_getElem? (i := i) ?_, by simp⟩
    rw [List.getElem?_zip_eq_some]
    exact ⟨hi, hai⟩
  obtain ⟨k', hk'⟩ := List.mem_iff_getElem?.mp hz
  have m1 : ((es.zip as).filter fun e => e.1.1 == j).map (·.1) = es.filter fun e => e.1 == j := by
    have : ∀ (es : List (Nat × Nat)) (as : List Ans), es.length = as.length → ((es.zip as).filter fun e => e.1.1 == j).map (·.1) = es.filter fun e => e.1 == j := by
      intro es
      induction es with
      | nil => intro as _; rfl
      | cons e es ih =>
        intro as h
        cases as with
        | nil => cases h
        | cons a as =>
          have ih' := ih as (Nat.succ.inj h)
          rw [List.zip_cons_cons, List.filter_cons, List.filter_cons]
          by_cases z : (e.1 == j) = true
          · rw [if_pos z, if_pos z, List.map_cons, ih']
          · rw [if_neg z, if_neg z, ih']
    exact this es as hl
  have g1 : (es.filter fun e => e.1 == j)[k']? = some (j, k) := by rw [← m1, List.getElem?_map, hk']; rfl
  rw [ho j, List.getElem?_map] at g1
  have ek : k' = k := by
    cases e : (List.range (n j))[k']? with
    | none => rw [e] at g1; cases g1
    | some x =>
      rw [e] at g1
      have hx : x = k' := by
        obtain ⟨h1, h2⟩ := List.getElem?_eq_some_iff.mp e
        rw [List.getElem_range] at h2
        exact h2.symm
      have : (j, x) = (j, k) := Option.some.inj g1
      have := congrArg (·.2) this
      rw [← hx]
      exact this
  have g2 : (ansOf j es as)[k']? = some a := by
    unfold ansOf
    rw [List.getElem?_map, hk']
    rfl
  rw [ha j, ek] at g2
  rw [hai, g2]
theorem Lin.run_from {values : List Int} {ps : List (List Deed)} {r : Rule} {w : List Nat} (ok : okIn values ps r) (hw : ∀ h ∈ w, h < ps.length) (e : ((M.begin_ values ps r).run w).strayed = false) : ∃ p, Lin values ((M.begin_ values ps r).run w) p :=
  (Lin.begin_ values ps r).run (Fine.begin_ ok) hw e
/-- what whole leaves -/
theorem whole_facts {values : List Int} {ps : List (List Deed)} {r : Rule} {w : List Nat} (ok : okIn values ps r) (hw : ∀ h ∈ w, h < ps.length) : Fine ps r (wholeM values ps r w) ∧ (wholeM values ps r w).isDone = true ∧ Ordn (wholeM values ps r w) ∧ (goodRule ps r → (wholeM values ps r w).strayed = false) ∧ ((wholeM values ps r w).strayed = false → ∃ p, Lin values (wholeM values ps r w) p) := by
  have f1 := (Fine.begin_ ok).run hw
  obtain ⟨h1, h2⟩ := f1.finish (n := 1000) f1.mu_le
  obtain ⟨w', e, hw'⟩ := whole_run hw ok
  refine ⟨h1, h2, ?_, fun g => ?_, fun s => ?_⟩
  · rw [e]
    exact (Ordn.begin_ values ps r).run (Fine.begin_ ok) hw'
  · rw [e]
    exact never ok g hw'
  · rw [e] at s ⊢
    exact Lin.run_from ok hw' s
end SS

set_option linter.all false
/-! What is pushed and popped: as many as there were. -/
namespace SS
theorem getD_get {α : Type} {l : List α} {i : Nat} {a d : α} (h : l[i]? = some a) : l.getD i d = a := by
  rw [List.getD_eq_getElem?_getD, h]
  rfl
theorem range_get {α β : Type} (f : Nat → α → β) (d : α) : ∀ l : List α, ((List.range l.length).map fun k => f k (l.getD k d)) = l.mapIdx f := by
  intro l
  refine List.ext_getElem? fun i => ?_
  rw [List.getElem?_map, List.getElem?_mapIdx]
  by_cases h : i < l.length
  · rw [List.getElem?_range h, List.getElem?_eq_getElem h]
    show some (f i (l.getD i d)) = some (f i l[i])
    rw [getD_get (List.getElem?_eq_getElem h)]
  · rw [List.getElem?_eq_none (by rw [List.length_range]; omega), List.getElem?_eq_none (by omega)]
    rfl
theorem range_getD {α : Type} (d : α) (l : List α) : ((List.range l.length).map fun k => l.getD k d) = l := by
  rw [range_get (fun _ a => a) d l]
  refine List.ext_getElem? fun i => ?_
  rw [List.getElem?_mapIdx]
  cases l[i]? <;> rfl
theorem due_map (ps : List (List Deed)) : (dueOf ps ps.length).map (fun e => (ps.getD e.1 []).getD e.2 .pop) = ps.flatten := by
  unfold dueOf
  rw [List.flatMap_def, List.map_flatten, List.map_map]
  have : (List.range ps.length).map ((List.map fun e : Nat × Nat => (ps.getD e.1 []).getD e.2 Deed.pop) ∘ fun j => (List.range (ps.getD j []).length).map fun k => (j, k)) = ps := by
    refine Eq.trans ?_ (range_getD [] ps)
    refine List.map_congr_left fun j _ => ?_
    show ((List.range (ps.getD j []).length).map fun k => (j, k)).map _ = _
    rw [List.map_map]
    exact range_getD .pop (ps.getD j [])
  rw [this]
variable {values : List Int} {ps : List (List Deed)} {r : Rule} {m : M} {p : List Nat}
theorem done_at (f : Fine ps r m) (hd : m.isDone = true) {j : Nat} (hj : j < ps.length) : (m.hd j).at_ = (ps.getD j []).length := by
  have := done_rests hd (j := j) (by rw [f.hn]; exact hj)
  rw [← fine_prog f]
  exact eq_of_beq this
theorem done_said (f : Fine ps r m) (hd : m.isDone = true) {j : Nat} (hj : j < ps.length) : (m.hd j).said.length = (ps.getD j []).length := by
  rw [← done_at f hd hj]
  exact (f.good.hand j (by rw [f.hn]; exact hj)).said
theorem done_full (f : Fine ps r m) (hd : m.isDone = true) {j : Nat} (hj : j < ps.length) : m.full j = (m.hd j).said := by
  have e : (m.prog j)[(m.hd j).at_]? = none := by
    rw [fine_prog f, done_at f hd hj]
    exact List.getElem?_eq_none (Nat.le_refl _)
  unfold M.full M.pend
  rw [e, if_neg (fun z => by cases z.1), List.append_nil]
theorem deeds_perm (f : Fine ps r m) (hd : m.isDone = true) (O : Ordn m) : m.deeds.Perm ps.flatten := by
  have h := (O.due f hd).map fun e : Nat × Nat => (ps.getD e.1 []).getD e.2 Deed.pop
  rw [due_map] at h
  have e : m.deeds = m.ends.map fun e : Nat × Nat => (ps.getD e.1 []).getD e.2 Deed.pop := by
    unfold M.deeds
    exact List.map_congr_left fun e _ => by rw [fine_prog f]
  rw [e]
  exact h
theorem zip_snd {α β : Type} : ∀ (a : List α) (b : List β), a.length = b.length → (a.zip b).map (·.2) = b
  | [], [], _ => rfl
  | x :: a, y :: b, h => by
    rw [List.zip_cons_cons, List.map_cons, zip_snd a b (Nat.succ.inj h)]
  | [], _ :: _, h => by cases h
  | _ :: _, [], h => by cases h
theorem answers_perm (f : Fine ps r m) (hd : m.isDone = true) (O : Ordn m) (L : Lin values m p) : (serial values m.deeds).1.Perm (m.hands.flatMap (·.said)) := by
  have hl := deeds_len m values
  have h := perm_hands (fun e : (Nat × Nat) × Ans => e.1.1) ps.length (m.ends.zip (serial values m.deeds).1) (fun e he => by
    rw [← f.hn]
    exact O.fst _ (List.of_mem_zip he).1)
  have h2 := h.map (·.2)
  rw [zip_snd _ _ hl, List.map_flatMap] at h2
  have e : ((List.range ps.length).flatMap fun j => ((m.ends.zip (serial values m.deeds).1).filter fun x => x.1.1 == j).map (·.2)) = m.hands.flatMap (·.said) := by
    have e1 : (List.range ps.length).map (fun j => ((m.ends.zip (serial values m.deeds).1).filter fun x => x.1.1 == j).map (·.2)) = m.hands.map (·.said) := by
      have e2 : m.hands.map (·.said) = (List.range ps.length).map fun j => (m.hd j).said := by
        rw [← f.hn]
        refine (congrArg (List.map fun x : Hd => x.said) (range_getD {} m.hands).symm).trans ?_
        rw [List.map_map]
        rfl
      rw [e2]
      refine List.map_congr_left fun j hj => ?_
      have hj' := List.mem_range.mp hj
      rw [← done_full f hd hj', ← L.ans j]
      rfl
    rw [List.flatMap_def, e1, List.flatMap_def]
  rw [e] at h2
  exact h2
theorem lost_perm (f : Fine ps r m) (hd : m.isDone = true) (O : Ordn m) (L : Lin values m p) : (values ++ pushes ps.flatten).Perm (valsOf (m.hands.flatMap (·.said)) ++ m.pileValues) := by
  have h1 := (List.Perm.refl values).append (pushes_perm (deeds_perm f hd O))
  have h2 := serial_perm values m.deeds
  have h3 := (valsOf_perm (answers_perm f hd O L)).append (show (serial values m.deeds).2.Perm m.pileValues by rw [L.values]; exact (List.reverse_perm _).symm)
  exact h1.symm.trans (h2.trans h3)
theorem none_count (f : Fine ps r m) (hd : m.isDone = true) (O : Ordn m) (L : Lin values m p) : (serial values m.deeds).1.count .non = (m.hands.flatMap (·.said)).count .non := (answers_perm f hd O L).count_eq _
theorem ans_said (f : Fine ps r m) (hd : m.isDone = true) (O : Ordn m) (L : Lin values m p) {i j k : Nat} (hi : m.ends[i]? = some (j, k)) : (serial values m.deeds).1[i]? = (m.hd j).said[k]? := by
  have hj : j < ps.length := by
    rw [← f.hn]
    exact O.fst _ (List.mem_of_getElem? hi)
  rw [ans_at (deeds_len m values) L.ord L.ans hi, done_full f hd hj]
theorem ends_in (f : Fine ps r m) (hd : m.isDone = true) (O : Ordn m) {e : Nat × Nat} (he : e ∈ m.ends) : e.1 < ps.length ∧ e.2 < (ps.getD e.1 []).length := by
  have hj : e.1 < ps.length := by
    rw [← f.hn]
    exact O.fst _ he
  refine ⟨hj, ?_⟩
  have h : e ∈ m.ends.filter fun x => x.1 == e.1 := List.mem_filter.mpr ⟨he, by simp⟩
  rw [O.full (done_rests hd (by rw [f.hn]; exact hj)), fine_prog f] at h
  obtain ⟨k, hk, e1⟩ := List.mem_map.mp h
  have e2 : k = e.2 := congrArg (·.2) e1
  exact e2 ▸ List.mem_range.mp hk
theorem word_push (f : Fine ps r m) (O : Ordn m) {j k : Nat} {pr : List Deed} {d : Deed} {a : Ans} (hp : ps[j]? = some pr) (hk : pr[k]? = some d) (ha : (m.hd j).said[k]? = some a) : (∃ v, d = Deed.push v) ↔ a = Ans.done := by
  obtain ⟨d', h1, h2⟩ := O.word j k a ha
  rw [fine_prog f, getD_get hp, hk] at h1
  cases h1
  exact h2
end SS

set_option linter.all false
/-! What a hand alone tells. -/
namespace SS
inductive Says (h : Nat) : List Tell → M → M → Prop where
  | last {m : M} : Says h [(m.turn h).1] m (m.step h)
  | more {ts : List Tell} {m m' : M} (d : Says h ts (m.step h) m') : Says h ((m.turn h).1 :: ts) m m'
theorem Says.of {h : Nat} {ts : List Tell} {m m1 m' : M} {t : Tell} (e : m.turn h = (t, m1)) (d : Says h ts m1 m') : Says h (t :: ts) m m' := by
  have e1 : m.step h = m1 := by unfold M.step; rw [e]
  have e2 : (m.turn h).1 = t := by rw [e]
  rw [← e1] at d
  rw [← e2]
  exact .more d
theorem Says.end_ {h : Nat} {m m1 : M} {t : Tell} (e : m.turn h = (t, m1)) : Says h [t] m m1 := by
  have e1 : m.step h = m1 := by unfold M.step; rw [e]
  have e2 : (m.turn h).1 = t := by rw [e]
  rw [← e1, ← e2]
  exact .last
theorem Says.tells {h : Nat} {ts : List Tell} {m m' : M} (s : Says h ts m m') : m.tells (List.replicate ts.length h) = ts ∧ m.run (List.replicate ts.length h) = m' := by
  induction s with
  | last => exact ⟨rfl, rfl⟩
  | more d ih => exact ⟨congrArg _ ih.1, ih.2⟩
section
variable {m : M} {h : Nat}
/-- a push alone: four turns -/
theorem alone_push {m : M} {p : List Nat} {h : Nat} {v : Int} (C : Calm m p) (hl : h < m.hands.length) (hd : (m.prog h)[(m.hd h).at_]? = some (.push v)) :
    ∃ m' c, Says h [.takes c, .reads m.top, .links m.top, .ends .done] m m' ∧ Calm m' (c :: p) ∧ (m.taken v).1 = c ∧ (m'.worths = (m.taken v).2.worths ∧ m'.freed = (m.taken v).2.freed) ∧ m'.ends = m.ends ++ [(h, (m.hd h).at_)] ∧ m'.hd h = (m.hd h).ended .done ∧ ∀ i, i ≠ h → m'.hd i = m.hd i := by
  obtain ⟨c, m', et, c1, c2, c3, c4, er, ep, eh, etop, ec, ee, es, ll, ch, inn, fr, fd, w1, w2⟩ := taken_calm C v
  obtain ⟨f1, f2, f3, f4, f5⟩ := C.fresh h
  have oth : ∀ i, m'.hd i = m.hd i := fun i => by unfold M.hd; rw [eh]
  have t1 := turn_takes hd f1
  rw [et] at t1
  have hl' : h < m'.hands.length := by rw [eh]; exact hl
  generalize hy : m.hd h = y at *
  have pr : ∀ (m2 : M), m2.progs = m'.progs → m2.prog h = m.prog h := fun m2 e => by unfold M.prog; rw [e, ep]
  have pg : ∀ (m2 : M) (z : Hd), m2.progs = m'.progs → z.at_ = y.at_ → (m2.prog h)[z.at_]? = some (.push v) := fun m2 z e1 e2 => by rw [pr m2 e1, e2]; exact hd
  -- the second turn
  have h1 : (m'.setH h { y with cell := c }).hd h = { y with cell := c } := M.setH_hd hl'
  have t2 := turn_reads_push (m := m'.setH h { y with cell := c }) (h := h) (v := v) (by rw [h1]; exact pg _ _ rfl rfl) (by rw [h1]; show c ≠ 0; omega) (by rw [h1]; exact f2)
  rw [h1, M.setH_setH] at t2
  -- the third
  have h2 : (m'.setH h { y with cell := c, seen := some (m'.top, m'.count) }).hd h = { y with cell := c, seen := some (m'.top, m'.count) } := M.setH_hd hl'
  have t3 := turn_links (m := m'.setH h { y with cell := c, seen := some (m'.top, m'.count) }) (h := h) (v := v) (s := (m'.top, m'.count)) (by rw [h2]; exact pg _ _ rfl rfl) (by rw [h2]; show c ≠ 0; omega) (by rw [h2]) (by rw [h2]; exact f3)
  rw [h2] at t3
  have e3 : ({ m'.setH h { y with cell := c, seen := some (m'.top, m'.count) } with links := m'.links.set (c - 1) m'.top } : M).setH h { y with cell := c, seen := some (m'.top, m'.count), follow := some m'.top } = ({ m' with links := m'.links.set (c - 1) m'.top } : M).setH h { y with cell := c, seen := some (m'.top, m'.count), follow := some m'.top } := by
    simp [M.setH, List.set_set]
  have t3' : (m'.setH h { y with cell := c, seen := some (m'.top, m'.count) }).turn h = (.links m'.top, ({ m' with links := m'.links.set (c - 1) m'.top } : M).setH h { y with cell := c, seen := some (m'.top, m'.count), follow := some m'.top }) := t3.trans (by rw [← e3]; rfl)
  -- the fourth
  have h3 : (({ m' with links := m'.links.set (c - 1) m'.top } : M).setH h { y with cell := c, seen := some (m'.top, m'.count), follow := some m'.top }).hd h = { y with cell := c, seen := some (m'.top, m'.count), follow := some m'.top } := M.setH_hd hl'
  have t4 := turn_pushed (m := ({ m' with links := m'.links.set (c - 1) m'.top } : M).setH h { y with cell := c, seen := some (m'.top, m'.count), follow := some m'.top }) (h := h) (v := v) (f := m'.top) (by rw [h3]; exact pg _ _ rfl rfl) (by rw [h3]; show c ≠ 0; omega) (by rw [h3]; rfl) (by rw [h3])
  rw [h3] at t4
  generalize hm3 : ({ m' with links := m'.links.set (c - 1) m'.top } : M).setH h { y with cell := c, seen := some (m'.top, m'.count), follow := some m'.top } = m3 at *
  have hl3 : h < (m3.exchd h c).hands.length := by
    show h < m3.hands.length
    rw [← hm3, M.setH_len]
    exact hl'
  have hex : (m3.exchd h c).hd h = m3.hd h := rfl
  have h4 : ((m3.exchd h c).endedH h .done).hd h = (m3.hd h).ended .done := by
    unfold M.endedH
    rw [M.setH_hd hl3]
    rfl
  have ye : (m3.hd h).ended .done = y.ended .done := by
    rw [h3]
    rfl
  have oth4 : ∀ i, i ≠ h → ((m3.exchd h c).endedH h .done).hd i = m.hd i := fun i ne => by
    unfold M.endedH
    rw [M.setH_ne hl3 ne]
    show m3.hd i = m.hd i
    rw [← hm3]
    exact (M.setH_ne (m := ({ m' with links := m'.links.set (c - 1) m'.top } : M)) hl' ne).trans (oth i)
  have L : m3.links = m'.links.set (c - 1) m'.top := by rw [← hm3]; rfl
  have Wt : m3.worths = m'.worths := by rw [← hm3]; rfl
  have Fd : m3.freed = m'.freed := by rw [← hm3]; rfl
  refine ⟨(m3.exchd h c).endedH h .done, c, ?_, ⟨?_, ?_, ?_, ?_, ?_, ?_, ?_, ?_⟩, ?_, ?_, ?_, ?_, oth4⟩
  · have S := Says.of t1 (Says.of t2 (Says.of t3' (Says.end_ t4)))
    rw [← etop]
    exact S
  · show chain m3.links c (c :: p)
    rw [L]
    refine ⟨rfl, by omega, ?_⟩
    have e : (m'.links.set (c - 1) m'.top).getD (c - 1) 0 = m'.top := by
      rw [List.getD_eq_getElem?_getD, List.getElem?_set_self (by omega)]
      rfl
    rw [e, etop]
    exact chain_set (by omega) ch c3 fun d hd => by have := (inn d hd).1; omega
  · exact List.nodup_cons.mpr ⟨c3, C.nd⟩
  · intro x hx
    show 1 ≤ x ∧ x ≤ m3.worths.length
    rw [Wt]
    rcases List.mem_cons.mp hx with rfl | hx
    · exact ⟨c1, c2⟩
    · exact inn x hx
  · show m3.links.length = m3.worths.length
    rw [L, Wt, List.length_set]
    exact ll
  · intro x hx
    have hx' : x ∈ m'.freed := by rw [← Fd]; exact hx
    obtain ⟨g1, g2, g3⟩ := fr x hx'
    show 1 ≤ x ∧ x ≤ m3.worths.length ∧ x ∉ c :: p
    rw [Wt]
    refine ⟨g1, g2, fun z => ?_⟩
    rcases List.mem_cons.mp z with rfl | z
    · exact c4 hx'
    · exact g3 z
  · show m3.freed.Nodup
    rw [Fd]
    exact fd
  · intro i
    by_cases e : i = h
    · subst e
      rw [h4]
      exact ended_fresh _ _
    · rw [oth4 i e]
      exact C.fresh i
  · show m3.strayed = false
    rw [← hm3]
    exact es
  · rw [et]
  · rw [et]
    exact ⟨Wt, Fd⟩
  · show m3.ends ++ [(h, (m3.hd h).at_)] = _
    rw [h3, ← hm3]
    show m'.ends ++ [(h, y.at_)] = _
    rw [ee]
  · rw [h4]
    exact ye

/-- a pop of an empty pile alone: one turn -/
theorem alone_none {m : M} {h : Nat} (C : Calm m []) (hl : h < m.hands.length) (hd : (m.prog h)[(m.hd h).at_]? = some .pop) :
    ∃ m', Says h [.ends .non] m m' ∧ Calm m' [] ∧ (m'.worths = m.worths ∧ m'.freed = m.freed) ∧ m'.ends = m.ends ++ [(h, (m.hd h).at_)] ∧ m'.hd h = (m.hd h).ended .non ∧ ∀ i, i ≠ h → m'.hd i = m.hd i := by
  obtain ⟨f1, f2, f3, f4, f5⟩ := C.fresh h
  have t := turn_empty hd f2 C.ch
  have h1 : (({ m with ends := m.ends ++ [(h, (m.hd h).at_)] } : M).endedH h .non).hd h = (m.hd h).ended .non := by
    unfold M.endedH
    exact M.setH_hd hl
  have oth : ∀ i, i ≠ h → (({ m with ends := m.ends ++ [(h, (m.hd h).at_)] } : M).endedH h .non).hd i = m.hd i := fun i ne => by
    unfold M.endedH
    exact M.setH_ne (m := ({ m with ends := m.ends ++ [(h, (m.hd h).at_)] } : M)) hl ne
  refine ⟨_, Says.end_ t, ⟨C.ch, C.nd, C.inn, C.ll, C.fr, C.fd, fun i => ?_, C.calm⟩, ⟨rfl, rfl⟩, rfl, h1, oth⟩
  · by_cases e : i = h
    · subst e
      rw [h1]
      exact ended_fresh _ _
    · rw [oth i e]
      exact C.fresh i
/-- the end of a pop: three turns -/
theorem alone_tail {m : M} {c : Nat} {p : List Nat} {h : Nat} {z : Hd} (C : Calm m (c :: p)) (hl : h < m.hands.length) (hd : (m.prog h)[z.at_]? = some .pop) (z1 : z.seen = some (m.top, m.count)) (z2 : z.cell = 0) (z3 : z.follow = none) (z4 : ¬ (m.rule.named h = true ∧ z.looked = false)) :
    ∃ m', Says h [.follows (p.headD 0), .exchanges (p.headD 0), .ends (.val (m.worths.getD (c - 1) 0))] (m.setH h z) m' ∧ Calm m' p ∧ (m'.worths = m.worths ∧ m'.freed = m.freed ++ [c]) ∧ m'.ends = m.ends ++ [(h, z.at_)] ∧ m'.hd h = z.ended (.val (m.worths.getD (c - 1) 0)) ∧ ∀ i, i ≠ h → m'.hd i = m.hd i := by
  obtain ⟨et, c0, ch⟩ := C.ch
  have hc := C.inn c List.mem_cons_self
  have h0 : (m.setH h z).hd h = z := M.setH_hd hl
  have t1 := turn_follows (m := m.setH h z) (h := h) (s := (m.top, m.count)) (by rw [h0]; exact hd) (by rw [h0]; exact z1) (by rw [h0]; exact z2) (by rw [h0]; exact z4) (by rw [h0]; exact z3)
  rw [h0, M.setH_setH] at t1
  have t1' : (m.setH h z).turn h = (.follows (m.links.getD (m.top - 1) 0), m.setH h { z with follow := some (m.links.getD (m.top - 1) 0) }) := t1
  have h1 : (m.setH h { z with follow := some (m.links.getD (m.top - 1) 0) }).hd h = { z with follow := some (m.links.getD (m.top - 1) 0) } := M.setH_hd hl
  have t2 := turn_exchanges (m := m.setH h { z with follow := some (m.links.getD (m.top - 1) 0) }) (h := h) (f := m.links.getD (m.top - 1) 0) (by rw [h1]; exact hd) (by rw [h1]; exact z1) (by rw [h1]; exact z2) (by rw [h1]; exact z4) (by rw [h1])
  rw [h1] at t2
  have hst : (m.strayed || m.links.getD (m.top - 1) 0 != m.links.getD (m.top - 1) 0) = false := by rw [C.calm]; simp
  have hl1 : h < (m.setH h { z with follow := some (m.links.getD (m.top - 1) 0) }).hands.length := by rw [M.setH_len]; exact hl
  have t2' : (m.setH h { z with follow := some (m.links.getD (m.top - 1) 0) }).turn h = (.exchanges (m.links.getD (m.top - 1) 0), ({ (m.setH h { z with follow := some (m.links.getD (m.top - 1) 0) }).exchd h (m.links.getD (m.top - 1) 0) with strayed := m.strayed || m.links.getD (m.top - 1) 0 != m.links.getD (m.top - 1) 0 } : M).setH h { z with follow := some (m.links.getD (m.top - 1) 0), cell := m.top }) := t2
  rw [hst] at t2'
  have h2 : (({ (m.setH h { z with follow := some (m.links.getD (m.top - 1) 0) }).exchd h (m.links.getD (m.top - 1) 0) with strayed := false } : M).setH h { z with follow := some (m.links.getD (m.top - 1) 0), cell := m.top }).hd h = { z with follow := some (m.links.getD (m.top - 1) 0), cell := m.top } := M.setH_hd hl1
  have oth2 : ∀ i, i ≠ h → (({ (m.setH h { z with follow := some (m.links.getD (m.top - 1) 0) }).exchd h (m.links.getD (m.top - 1) 0) with strayed := false } : M).setH h { z with follow := some (m.links.getD (m.top - 1) 0), cell := m.top }).hd i = m.hd i := fun i ne => by
    have e1 := M.setH_ne (m := ({ (m.setH h { z with follow := some (m.links.getD (m.top - 1) 0) }).exchd h (m.links.getD (m.top - 1) 0) with strayed := false } : M)) (x := { z with follow := some (m.links.getD (m.top - 1) 0), cell := m.top }) hl1 ne
    exact e1.trans (M.setH_ne hl ne)
  have he : (m.setH h { z with follow := some (m.links.getD (m.top - 1) 0) }).ends ++ [(h, ((m.setH h { z with follow := some (m.links.getD (m.top - 1) 0) }).hd h).at_)] = m.ends ++ [(h, z.at_)] := by rw [h1]; rfl
  have g2 : (({ (m.setH h { z with follow := some (m.links.getD (m.top - 1) 0) }).exchd h (m.links.getD (m.top - 1) 0) with strayed := false } : M).setH h { z with follow := some (m.links.getD (m.top - 1) 0), cell := m.top }).ends = m.ends ++ [(h, z.at_)] := he
  generalize hm2 : (({ (m.setH h { z with follow := some (m.links.getD (m.top - 1) 0) }).exchd h (m.links.getD (m.top - 1) 0) with strayed := false } : M).setH h { z with follow := some (m.links.getD (m.top - 1) 0), cell := m.top }) = m2 at *
  have pr : m2.prog h = m.prog h := by rw [← hm2]; rfl
  have W : m2.worths = m.worths := by rw [← hm2]; rfl
  have Lk : m2.links = m.links := by rw [← hm2]; rfl
  have Tp : m2.top = m.links.getD (m.top - 1) 0 := by rw [← hm2]; rfl
  have Fd : m2.freed = m.freed := by rw [← hm2]; rfl
  have St : m2.strayed = false := by rw [← hm2]; rfl
  have hl2 : h < m2.hands.length := by
    rw [← hm2, M.setH_len]
    exact hl1
  have t3 := turn_popped (m := m2) (h := h) (s := (m.top, m.count)) (by rw [h2, pr]; exact hd) (by rw [h2]; exact z1) (by rw [h2]; show m.top ≠ 0; omega)
  have t3' : m2.turn h = (.ends (.val (m.worths.getD (m.top - 1) 0)), ({ m2 with freed := m2.freed ++ [m.top] } : M).endedH h (.val (m.worths.getD (m.top - 1) 0))) := by
    have e : (m2.hd h).cell = m.top := by rw [h2]
    rw [t3, e, W]
  have h3 : (({ m2 with freed := m2.freed ++ [m.top] } : M).endedH h (.val (m.worths.getD (m.top - 1) 0))).hd h = (m2.hd h).ended (.val (m.worths.getD (m.top - 1) 0)) := by
    unfold M.endedH
    exact M.setH_hd hl2
  have oth3 : ∀ i, i ≠ h → (({ m2 with freed := m2.freed ++ [m.top] } : M).endedH h (.val (m.worths.getD (m.top - 1) 0))).hd i = m.hd i := fun i ne => by
    unfold M.endedH
    exact (M.setH_ne (m := ({ m2 with freed := m2.freed ++ [m.top] } : M)) hl2 ne).trans (oth2 i ne)
  have nd := List.nodup_cons.mp C.nd
  refine ⟨({ m2 with freed := m2.freed ++ [m.top] } : M).endedH h (.val (m.worths.getD (m.top - 1) 0)), ?_, ⟨?_, nd.2, ?_, ?_, ?_, ?_, fun i => ?_, St⟩, ⟨W, ?_⟩, g2, ?_, oth3⟩
  · have S := Says.of t1' (Says.of t2' (Says.end_ t3'))
    have eh : m.links.getD (m.top - 1) 0 = p.headD 0 := by
      rw [et]
      cases p with
      | nil => exact ch
      | cons x q => exact ch.1
    rw [eh] at S
    rw [← et]
    exact S
  · show chain m2.links m2.top p
    rw [Lk, Tp, et]
    exact ch
  · intro x hx
    show 1 ≤ x ∧ x ≤ m2.worths.length
    rw [W]
    exact C.inn x (List.mem_cons_of_mem _ hx)
  · show m2.links.length = m2.worths.length
    rw [Lk, W]
    exact C.ll
  · intro x hx
    have hx' : x ∈ m.freed ++ [m.top] := by rw [← Fd]; exact hx
    show 1 ≤ x ∧ x ≤ m2.worths.length ∧ _
    rw [W]
    rcases List.mem_append.mp hx' with hx | hx
    · obtain ⟨a, b, d⟩ := C.fr x hx
      exact ⟨a, b, fun z => d (List.mem_cons_of_mem _ z)⟩
    · have : x = m.top := by simpa using hx
      rw [this, et]
      exact ⟨hc.1, hc.2, nd.1⟩
  · show (m2.freed ++ [m.top]).Nodup
    rw [Fd, List.nodup_append]
    refine ⟨C.fd, by simp, fun a ha b hb => ?_⟩
    have : b = m.top := by simpa using hb
    rw [this, et]
    exact fun z => (C.fr a ha).2.2 (z ▸ List.mem_cons_self)
  · by_cases e : i = h
    · subst e
      rw [h3]
      exact ended_fresh _ _
    · rw [oth3 i e]
      exact C.fresh i
  · show m2.freed ++ [m.top] = _
    rw [Fd, et]
  · rw [h3, h2, et]
    rfl

/-- a pop alone: four turns, or six where the rule has the hand mark -/
theorem alone_pop {m : M} {c : Nat} {p : List Nat} {h : Nat} (C : Calm m (c :: p)) (hl : h < m.hands.length) (hd : (m.prog h)[(m.hd h).at_]? = some .pop) :
    ∃ m', Says h (.reads c :: ((if m.rule.named h = true then [.marks c, .looks true] else []) ++ [.follows (p.headD 0), .exchanges (p.headD 0), .ends (.val (m.worths.getD (c - 1) 0))])) m m' ∧ Calm m' p ∧ (m'.worths = m.worths ∧ m'.freed = m.freed ++ [c]) ∧ m'.ends = m.ends ++ [(h, (m.hd h).at_)] ∧ m'.hd h = (m.hd h).ended (.val (m.worths.getD (c - 1) 0)) ∧ ∀ i, i ≠ h → m'.hd i = m.hd i := by
  obtain ⟨f1, f2, f3, f4, f5⟩ := C.fresh h
  obtain ⟨et, c0, _⟩ := C.ch
  have t1 := turn_reads_pop hd f2 (by omega)
  generalize hy : m.hd h = y at *
  have h1 : (m.setH h { y with seen := some (m.top, m.count) }).hd h = { y with seen := some (m.top, m.count) } := M.setH_hd hl
  by_cases hn : m.rule.named h = true
  · have t2 := turn_marks (m := m.setH h { y with seen := some (m.top, m.count) }) (h := h) (s := (m.top, m.count)) (by rw [h1]; exact hd) (by rw [h1]) (by rw [h1]; exact f1) hn (by rw [h1]; exact f5) (by rw [h1]; show y.mark ≠ m.top; omega)
    rw [h1, M.setH_setH] at t2
    have t2' : (m.setH h { y with seen := some (m.top, m.count) }).turn h = (.marks m.top, m.setH h { y with seen := some (m.top, m.count), mark := m.top }) := t2
    have h2 : (m.setH h { y with seen := some (m.top, m.count), mark := m.top }).hd h = { y with seen := some (m.top, m.count), mark := m.top } := M.setH_hd hl
    have t3 := turn_looks (m := m.setH h { y with seen := some (m.top, m.count), mark := m.top }) (h := h) (s := (m.top, m.count)) (by rw [h2]; exact hd) (by rw [h2]) (by rw [h2]; exact f1) hn (by rw [h2]; exact f5) (by rw [h2]) rfl
    rw [h2, M.setH_setH] at t3
    have t3' : (m.setH h { y with seen := some (m.top, m.count), mark := m.top }).turn h = (.looks true, m.setH h { y with seen := some (m.top, m.count), mark := m.top, looked := true }) := t3
    have h3 : (m.setH h { y with seen := some (m.top, m.count), mark := m.top, looked := true }).hd h = { y with seen := some (m.top, m.count), mark := m.top, looked := true } := M.setH_hd hl
    obtain ⟨m', d, g1, g2, g3, g4, g5⟩ := alone_tail (z := { y with seen := some (m.top, m.count), mark := m.top, looked := true }) C hl hd rfl f1 f3 (fun z => by cases z.2)
    refine ⟨m', ?_, g1, g2, g3, g4, g5⟩
    have S := Says.of t1 (Says.of t2' (Says.of t3' d))
    rw [if_pos hn, ← et]
    rw [← et] at S
    exact S
  · obtain ⟨m', d, g1, g2, g3, g4, g5⟩ := alone_tail (z := { y with seen := some (m.top, m.count) }) C hl hd rfl f1 f3 (fun z => hn z.1)
    refine ⟨m', ?_, g1, g2, g3, g4, g5⟩
    have S := Says.of t1 d
    rw [if_neg hn, ← et]
    rw [← et] at S
    exact S
end
end SS

set_option linter.all false
/-! A hand alone: all its steps, and what stands in the end. -/
namespace SS
structure Al where
  told : List Tell
  p : List Nat
  w : List Int
  fr : List Nat
def Al.step (r : Rule) (h : Nat) (s : Al) : Deed → Al
  | .push v => match pick r [] s.fr with
    | some c => ⟨s.told ++ [.takes c, .reads (s.p.headD 0), .links (s.p.headD 0), .ends .done], c :: s.p, s.w.set (c - 1) v, s.fr.erase c⟩
    | none => ⟨s.told ++ [.takes (s.w.length + 1), .reads (s.p.headD 0), .links (s.p.headD 0), .ends .done], (s.w.length + 1) :: s.p, s.w ++ [v], s.fr⟩
  | .pop => match s.p with
    | [] => { s with told := s.told ++ [.ends .non] }
    | c :: q => ⟨s.told ++ (.reads c :: ((if r.named h = true then [.marks c, .looks true] else []) ++ [.follows (q.headD 0), .exchanges (q.headD 0), .ends (.val (s.w.getD (c - 1) 0))])), q, s.w, s.fr ++ [c]⟩
def alAt (values : List Int) (r : Rule) (h : Nat) (ds : List Deed) (i : Nat) : Al := (ds.take i).foldl (Al.step r h) ⟨[], pile0 values.length, values, []⟩
theorem alAt_snoc {values : List Int} {r : Rule} {h : Nat} {ds : List Deed} {i : Nat} {d : Deed} (e : ds[i]? = some d) : alAt values r h ds (i + 1) = (alAt values r h ds i).step r h d := by
  unfold alAt
  rw [List.take_add_one, e]
  show (ds.take i ++ [d]).foldl _ _ = _
  rw [List.foldl_append]
  rfl
theorem tells_app : ∀ (a b : List Nat) (m : M), m.tells (a ++ b) = m.tells a ++ (m.run a).tells b
  | [], b, m => rfl
  | x :: a, b, m => congrArg ((m.turn x).1 :: ·) (tells_app a b (m.step x))
theorem run_app2 : ∀ (a b : List Nat) (m : M), m.run (a ++ b) = (m.run a).run b
  | [], b, m => rfl
  | x :: a, b, m => run_app2 a b (m.step x)
theorem Calm.marked {m : M} {p : List Nat} (C : Calm m p) : m.marked = [] := by
  unfold M.marked
  refine List.filter_eq_nil_iff.mpr fun c hc => ?_
  obtain ⟨x, hx, rfl⟩ := List.mem_map.mp hc
  obtain ⟨i, hi⟩ := List.mem_iff_getElem?.mp hx
  have := (C.fresh i).2.2.2.1
  rw [show m.hd i = x from getD_get hi] at this
  rw [this]
  simp
theorem Calm.top {m : M} {p : List Nat} (C : Calm m p) : m.top = p.headD 0 := by
  have := C.ch
  cases p with
  | nil => exact this
  | cons c q => exact this.1
structure AloneAt (values : List Int) (ps : List (List Deed)) (r : Rule) (h i : Nat) (s : Al) (m : M) : Prop where
  says : (M.begin_ values ps r).tells (List.replicate s.told.length h) = s.told
  runs : (M.begin_ values ps r).run (List.replicate s.told.length h) = m
  calm : Calm m s.p
  w : m.worths = s.w
  fr : m.freed = s.fr
  ends : m.ends = (List.range i).map fun k => (h, k)
  at_ : (m.hd h).at_ = i
  oth : ∀ j, j ≠ h → m.hd j = {}
theorem AloneAt.more {values : List Int} {ps : List (List Deed)} {r : Rule} {h i : Nat} {s s' : Al} {m m' : M} {ts : List Tell} {x : Hd} {a : Ans} (A : AloneAt values ps r h i s m) (S : Says h ts m m') (es : s'.told = s.told ++ ts) (C : Calm m' s'.p) (w : m'.worths = s'.w) (fr : m'.freed = s'.fr)
    (en : m'.ends = m.ends ++ [(h, (m.hd h).at_)]) (eh : m'.hd h = (m.hd h).ended a) (oth : ∀ j, j ≠ h → m'.hd j = m.hd j) : AloneAt values ps r h (i + 1) s' m' := by
  obtain ⟨t1, t2⟩ := S.tells
  have er : List.replicate s'.told.length h = List.replicate s.told.length h ++ List.replicate ts.length h := by rw [es, List.length_append, List.replicate_append_replicate]
  refine ⟨?_, ?_, C, w, fr, ?_, ?_, fun j n => by rw [oth j n]; exact A.oth j n⟩
  · rw [er, tells_app, A.says, A.runs, t1, es]
  · rw [er, run_app2, A.runs, t2]
  · rw [en, A.ends, A.at_, List.range_succ, List.map_append]
    rfl
  · rw [eh]
    show (m.hd h).at_ + 1 = _
    rw [A.at_]
theorem alone_at {values : List Int} {ps : List (List Deed)} {r : Rule} {h : Nat} {ds : List Deed} (ok : okIn values ps r) (hl : h < ps.length) (hd : ps.getD h [] = ds) : ∀ i, i ≤ ds.length → ∃ m, AloneAt values ps r h i (alAt values r h ds i) m
  | 0, _ => ⟨M.begin_ values ps r, rfl, rfl, (begin_calm values ps r).1, rfl, rfl, rfl, by rw [begin_hd], fun j _ => begin_hd values ps r j⟩
  | i + 1, hi => by
    obtain ⟨m, A⟩ := alone_at ok hl hd i (by omega)
    have hdi : ds[i]? = some ds[i] := List.getElem?_eq_getElem (by omega)
    generalize ds[i] = d at hdi
    rw [alAt_snoc hdi]
    generalize alAt values r h ds i = s at A
    have f : Fine ps r m := by
      rw [← A.runs]
      exact (Fine.begin_ ok).run fun x hx => by rw [List.eq_of_mem_replicate hx]; exact hl
    have hlm : h < m.hands.length := by rw [f.hn]; exact hl
    have hp : (m.prog h)[(m.hd h).at_]? = some d := by rw [fine_prog f, hd, A.at_]; exact hdi
    cases d with
    | push v =>
      obtain ⟨m', c, S, C, ec, ⟨ew, ef⟩, en, eh, oth⟩ := alone_push A.calm hlm hp
      refine ⟨m', ?_⟩
      have pk : pick r [] s.fr = pick m.rule m.marked m.freed := by rw [f.rule, A.calm.marked, A.fr]
      rw [A.calm.top] at S
      unfold Al.step
      simp only
      cases hk : pick r [] s.fr with
      | some c' =>
        rw [pk] at hk
        rw [taken_some hk] at ec ew ef
        have ec' : c' = c := ec
        subst ec'
        refine A.more (x := {}) S rfl C (ew.trans ?_) (ef.trans ?_) en eh oth
        · show m.worths.set _ _ = _
          rw [A.w]
        · show m.freed.erase _ = _
          rw [A.fr]
      | none =>
        rw [pk] at hk
        rw [taken_none hk] at ec ew ef
        have ec' : m.worths.length + 1 = c := ec
        rw [A.w] at ec'
        subst ec'
        refine A.more (x := {}) S rfl C (ew.trans ?_) (ef.trans ?_) en eh oth
        · show m.worths ++ _ = _
          rw [A.w]
        · exact A.fr
    | pop =>
      have Cm := A.calm
      unfold Al.step
      simp only
      cases ep : s.p with
      | nil =>
        rw [ep] at Cm
        obtain ⟨m', S, C, ⟨ew, ef⟩, en, eh, oth⟩ := alone_none Cm hlm hp
        exact ⟨m', A.more (x := {}) S rfl C (ew.trans A.w) (ef.trans A.fr) en eh oth⟩
      | cons c q =>
        rw [ep] at Cm
        obtain ⟨m', S, C, ⟨ew, ef⟩, en, eh, oth⟩ := alone_pop Cm hlm hp
        rw [f.rule, A.w] at S
        exact ⟨m', A.more (x := {}) S rfl C (ew.trans A.w) (ef.trans (by rw [A.fr])) en eh oth⟩
/-! ### in the end -/
theorem rest_run {m : M} {h : Nat} (hr : m.rests h = true) : ∀ n, m.run (List.replicate n h) = m ∧ m.tells (List.replicate n h) = List.replicate n .rests
  | 0 => ⟨rfl, rfl⟩
  | n + 1 => by
    have es : m.step h = m := by unfold M.step; rw [step_rests hr]
    obtain ⟨h1, h2⟩ := rest_run hr n
    refine ⟨?_, ?_⟩
    · show (m.step h).run (List.replicate n h) = m
      rw [es, h1]
    · show (m.turn h).1 :: (m.step h).tells (List.replicate n h) = _
      rw [es, h2, step_rests hr]
      rfl
theorem run_only {ps : List (List Deed)} {r : Rule} {h : Nat} (ho : ∀ j, j ≠ h → ps.getD j [] = []) : ∀ {w : List Nat} {m : M}, Fine ps r m → (∀ x ∈ w, x < ps.length) → m.run w = m.run (List.replicate (w.count h) h)
  | [], m, _, _ => rfl
  | x :: w, m, f, hw => by
    have h1 := hw x List.mem_cons_self
    have hw' : ∀ y ∈ w, y < ps.length := fun y hy => hw y (List.mem_cons_of_mem _ hy)
    by_cases e : x = h
    · subst e
      rw [List.count_cons_self, List.replicate_succ]
      exact run_only ho (f.step h1) hw'
    · rw [List.count_cons_of_ne e]
      have hr : m.rests x = true := by
        have h2 := (f.hand x).at_
        have h3 : m.prog x = [] := by rw [fine_prog f]; exact ho x e
        unfold M.rests
        rw [h3] at h2 ⊢
        have : (m.hd x).at_ = 0 := by simpa using h2
        rw [this]
        rfl
      have es : m.step x = m := by unfold M.step; rw [step_rests hr]
      show (m.step x).run w = _
      rw [es]
      exact run_only ho f hw'
theorem alone_whole {values : List Int} {ps : List (List Deed)} {r : Rule} {h : Nat} {ds : List Deed} {w : List Nat} {m : M} (ok : okIn values ps r) (hl : h < ps.length) (hd : ps.getD h [] = ds) (ho : ∀ j, j ≠ h → ps.getD j [] = []) (hw : ∀ x ∈ w, x < ps.length)
    (A : AloneAt values ps r h ds.length (alAt values r h ds ds.length) m) : wholeM values ps r w = m ∧ m.rests h = true := by
  have f : Fine ps r m := by
    rw [← A.runs]
    exact (Fine.begin_ ok).run fun x hx => by rw [List.eq_of_mem_replicate hx]; exact hl
  have hr : m.rests h = true := by
    unfold M.rests
    rw [A.at_, fine_prog f, hd]
    exact beq_self_eq_true _
  refine ⟨?_, hr⟩
  obtain ⟨fw, dw, _, _, _⟩ := whole_facts ok hw
  have rw' : (wholeM values ps r w).rests h = true := done_rests dw (by rw [fw.hn]; exact hl)
  obtain ⟨w', e, hw'⟩ := whole_run hw ok
  rw [e] at rw' ⊢
  rw [run_only ho (Fine.begin_ ok) hw'] at rw' ⊢
  have eR := A.runs
  generalize (w ++ w').count h = k at rw' ⊢
  generalize (alAt values r h ds ds.length).told.length = N at eR
  rcases Nat.le_total k N with z | z
  · obtain ⟨c, rfl⟩ := Nat.exists_eq_add_of_le z
    rw [← List.replicate_append_replicate, run_app2, (rest_run rw' c).1] at eR
    exact eR
  · obtain ⟨c, rfl⟩ := Nat.exists_eq_add_of_le z
    rw [← List.replicate_append_replicate, run_app2, eR, (rest_run hr c).1]
/-- what a hand alone leaves -/
theorem alone_told {values : List Int} {ps : List (List Deed)} {r : Rule} {h : Nat} {ds : List Deed} {m : M} (ok : okIn values ps r) (hl : h < ps.length) (hd : ps.getD h [] = ds)
    (A : AloneAt values ps r h ds.length (alAt values r h ds ds.length) m) : m.strayed = false ∧ (m.hd h).said = (serial values ds).1 ∧ m.pileValues = (serial values ds).2.reverse ∧ m.ends = (List.range ds.length).map fun k => (h, k) := by
  have f : Fine ps r m := by
    rw [← A.runs]
    exact (Fine.begin_ ok).run fun x hx => by rw [List.eq_of_mem_replicate hx]; exact hl
  have st := A.calm.calm
  have st2 : ((M.begin_ values ps r).run (List.replicate (alAt values r h ds ds.length).told.length h)).strayed = false := by rw [A.runs]; exact st
  obtain ⟨p, L⟩ := Lin.run_from ok (w := List.replicate (alAt values r h ds ds.length).told.length h) (fun x hx => by rw [List.eq_of_mem_replicate hx]; exact hl) st2
  rw [A.runs] at L
  have ed : m.deeds = ds := by
    unfold M.deeds
    rw [A.ends, List.map_map]
    refine Eq.trans ?_ (range_getD .pop ds)
    refine List.map_congr_left fun k _ => ?_
    show (m.prog h).getD k .pop = _
    rw [fine_prog f, hd]
  refine ⟨st, ?_, by rw [L.values, ed], A.ends⟩
  have h1 := L.ans h
  have h2 : m.full h = (m.hd h).said := by
    unfold M.full
    rw [pend_zero (A.calm.fresh h).1, List.append_nil]
  rw [h2, ed] at h1
  rw [← h1]
  have hlen : m.ends.length = (serial values ds).1.length := by rw [← ed]; exact deeds_len m values
  have all : ∀ e ∈ m.ends, e.1 = h := fun e he => by
    rw [A.ends] at he
    obtain ⟨k, _, rfl⟩ := List.mem_map.mp he
    rfl
  unfold ansOf
  rw [List.filter_eq_self.mpr (fun e he => by
    have := all e.1 (List.of_mem_zip he).1
    rw [this]
    exact beq_self_eq_true _), zip_snd _ _ hlen]
end SS

set_option linter.all false
/-! How many states there are, at most. -/
namespace SS
/-! ### what going on hangs on -/
abbrev HKey := Nat × Nat × Option (Nat × Nat) × Option Nat × Nat × Bool
abbrev Key := List Nat × Nat × Nat × List Nat × List HKey
def Hd.key (x : Hd) : HKey := (x.at_, x.cell, x.seen, x.follow, x.mark, x.looked)
def M.key (m : M) : Key := (m.links, m.top, m.count, m.freed, m.hands.map Hd.key)
/-! ### the shared part, the hands' own readings left out -/
structure Sig where
  links : List Nat
  top : Nat
  count : Nat
  freed : List Nat
  hs : List Hd
  hist : List (Nat × Nat)
def Hd.bare (x : Hd) : Hd := { x with said := [] }
def pushOf (p : List Deed) (x : Hd) : Bool :=
  match p[x.at_]? with
  | some (.push _) => decide (x.cell ≠ 0)
  | _ => false
def M.pushing (m : M) (i : Nat) : Bool := pushOf (m.prog i) (m.hd i)
def M.holds (m : M) (c : Nat) : Bool := (List.range m.hands.length).any fun i => m.pushing i && (m.hd i).cell == c
def core (p : List Deed) (x : Hd) : Hd := if p[x.at_]? = some .pop ∧ x.cell ≠ 0 then x.bare else { at_ := x.at_, cell := x.cell }
def M.masked (m : M) : List Nat := (List.range m.links.length).map fun k => if m.holds (k + 1) then 0 else m.links.getD k 0
def M.cores (m : M) : List Hd := (List.range m.hands.length).map fun i => core (m.prog i) (m.hd i)
def M.sig (m : M) (hist : List (Nat × Nat)) : Sig := ⟨m.masked, m.top, m.count, m.freed, m.cores, hist⟩
def turnedC (r : Rule) (count : Nat) : Nat :=
  match r with
  | .counts k => (count + 1) % k
  | _ => count
def Sig.nextOf (r : Rule) (g : Sig) (h : Nat) (x : Hd) : Option Deed → List Sig
  | none => []
  | some (.push _) =>
    if x.cell = 0 then
      (⟨g.links ++ [0], g.top, g.count, g.freed, g.hs.set h { at_ := x.at_, cell := g.links.length + 1 }, g.hist⟩ : Sig) ::
        (g.freed.filter fun c => decide (c ≠ 0)).map fun c => ⟨g.links.set (c - 1) 0, g.top, g.count, g.freed.erase c, g.hs.set h { at_ := x.at_, cell := c }, g.hist⟩
    else [⟨g.links.set (x.cell - 1) g.top, x.cell, turnedC r g.count, g.freed, g.hs.set h { at_ := x.at_ + 1 }, g.hist ++ [(x.cell, turnedC r g.count)]⟩]
  | some .pop =>
    if x.cell = 0 then
      if g.top = 0 then [⟨g.links, g.top, g.count, g.freed, g.hs.set h { at_ := x.at_ + 1 }, g.hist⟩]
      else [⟨g.links, g.links.getD (g.top - 1) 0, turnedC r g.count, g.freed,
        g.hs.set h { at_ := x.at_, cell := g.top, seen := some (g.top, g.count), follow := some (g.links.getD (g.top - 1) 0), mark := if r.named h then g.top else 0, looked := r.named h },
        g.hist ++ [(g.links.getD (g.top - 1) 0, turnedC r g.count)]⟩]
    else [⟨g.links, g.top, g.count, g.freed ++ [x.cell], g.hs.set h { at_ := x.at_ + 1 }, g.hist⟩]
def Sig.nexts (ps : List (List Deed)) (r : Rule) (g : Sig) (h : Nat) : List Sig :=
  g.nextOf r h (g.hs.getD h {}) ((ps.getD h [])[(g.hs.getD h {}).at_]?)
/-! ### the shapes of a hand -/
inductive Shape (C : Nat) (r : Rule) (h : Nat) (hist : List (Nat × Nat)) (p : List Deed) (x : Hd) : Prop where
  | rest (hp : p[x.at_]? = none) (e : x.bare = { at_ := x.at_ })
  | take (v : Int) (hp : p[x.at_]? = some (.push v)) (e : x.bare = { at_ := x.at_ })
  | has (v : Int) (hp : p[x.at_]? = some (.push v)) (hc : x.cell ≠ 0) (e : x.bare = { at_ := x.at_, cell := x.cell })
  | saw (v : Int) (s : Nat × Nat) (hs : s ∈ hist) (hp : p[x.at_]? = some (.push v)) (hc : x.cell ≠ 0) (e : x.bare = { at_ := x.at_, cell := x.cell, seen := some s })
  | linked (v : Int) (s : Nat × Nat) (hs : s ∈ hist) (hp : p[x.at_]? = some (.push v)) (hc : x.cell ≠ 0) (e : x.bare = { at_ := x.at_, cell := x.cell, seen := some s, follow := some s.1 })
  | popN (k : Nat) (hk : k ∈ 0 :: hist.map Prod.fst) (hp : p[x.at_]? = some .pop) (hn : r.named h = true) (e : x.bare = { at_ := x.at_, mark := k })
  | popS (s : Nat × Nat) (hs : s ∈ hist) (k : Nat) (hk : k ∈ 0 :: hist.map Prod.fst) (hp : p[x.at_]? = some .pop) (hn : r.named h = true) (e : x.bare = { at_ := x.at_, seen := some s, mark := k })
  | popL (s : Nat × Nat) (hs : s ∈ hist) (f : Option Nat) (hf : ∀ n, f = some n → n ≤ C) (hp : p[x.at_]? = some .pop) (hn : r.named h = true) (e : x.bare = { at_ := x.at_, seen := some s, mark := s.1, looked := true, follow := f })
  | popU (hp : p[x.at_]? = some .pop) (hn : r.named h = false) (e : x.bare = { at_ := x.at_ })
  | popF (s : Nat × Nat) (hs : s ∈ hist) (f : Option Nat) (hf : ∀ n, f = some n → n ≤ C) (hp : p[x.at_]? = some .pop) (hn : r.named h = false) (e : x.bare = { at_ := x.at_, seen := some s, follow := f })
  | done (hp : p[x.at_]? = some .pop) (hc : x.cell ≠ 0)
theorem Shape.mono {C : Nat} {r : Rule} {h : Nat} {hist hist' : List (Nat × Nat)} {p : List Deed} {x : Hd} (z : Shape C r h hist p x) (l : ∀ s ∈ hist, s ∈ hist') : Shape C r h hist' p x := by
  have l2 : ∀ k, k ∈ 0 :: hist.map Prod.fst → k ∈ 0 :: hist'.map Prod.fst := fun k hk => by
    rcases List.mem_cons.mp hk with z | z
    · exact List.mem_cons.mpr (.inl z)
    · obtain ⟨s, hs, e⟩ := List.mem_map.mp z
      exact List.mem_cons.mpr (.inr (List.mem_map.mpr ⟨s, l s hs, e⟩))
  cases z with
  | rest a b => exact .rest a b
  | take v a b => exact .take v a b
  | has v a b c => exact .has v a b c
  | saw v s hs a b c => exact .saw v s (l s hs) a b c
  | linked v s hs a b c => exact .linked v s (l s hs) a b c
  | popN k hk a b c => exact .popN k (l2 k hk) a b c
  | popS s hs k hk a b c => exact .popS s (l s hs) k (l2 k hk) a b c
  | popL s hs f hf a b c => exact .popL s (l s hs) f hf a b c
  | popU a b c => exact .popU a b c
  | popF s hs f hf a b c => exact .popF s (l s hs) f hf a b c
  | done a b => exact .done a b
/-- behind a deed's end -/
theorem Shape.new {C : Nat} {r : Rule} {h : Nat} {hist : List (Nat × Nat)} {p : List Deed} {x : Hd} (e : x.bare = { at_ := x.at_ }) : Shape C r h hist p x := by
  cases hp : p[x.at_]? with
  | none => exact .rest hp e
  | some d =>
    cases d with
    | push v => exact .take v hp e
    | pop =>
      cases hn : r.named h with
      | true => exact .popN 0 List.mem_cons_self hp hn e
      | false => exact .popU hp hn e
/-! ### the masks -/
theorem holds_iff {m : M} {c : Nat} : m.holds c = true ↔ ∃ i, m.pushing i = true ∧ (m.hd i).cell = c := by
  unfold M.holds
  rw [List.any_eq_true]
  constructor
  · rintro ⟨i, _, hi⟩
    rw [Bool.and_eq_true] at hi
    exact ⟨i, hi.1, by simpa using hi.2⟩
  · rintro ⟨i, h1, h2⟩
    refine ⟨i, ?_, by rw [Bool.and_eq_true]; exact ⟨h1, by simpa using h2⟩⟩
    apply Classical.byContradiction
    intro n
    have hl : m.hands.length ≤ i := by
      rw [List.mem_range] at n
      omega
    have e0 : m.hd i = {} := by
      unfold M.hd
      rw [List.getD_eq_getElem?_getD, List.getElem?_eq_none hl]
      rfl
    unfold M.pushing pushOf at h1
    rw [e0] at h1
    split at h1
    · cases h1
    · cases h1
theorem masked_len (m : M) : m.masked.length = m.links.length := by simp [M.masked]
theorem masked_get {m : M} {k : Nat} (h : k < m.links.length) : m.masked[k]? = some (if m.holds (k + 1) then 0 else m.links.getD k 0) := by
  unfold M.masked
  rw [List.getElem?_map, List.getElem?_range h]
  rfl
theorem list_ext {a b : List Nat} (hl : a.length = b.length) (h : ∀ k, k < a.length → a[k]? = b[k]?) : a = b := by
  apply List.ext_getElem?
  intro k
  by_cases hk : k < a.length
  · exact h k hk
  · rw [List.getElem?_eq_none (by omega), List.getElem?_eq_none (by omega)]
/-- nothing has changed but for cells that are held -/
theorem masked_same {m m' : M} (hl : m'.links.length = m.links.length) (hh : ∀ c, m'.holds c = m.holds c) (h : ∀ k, k < m.links.length → m.holds (k + 1) = false → m'.links.getD k 0 = m.links.getD k 0) : m'.masked = m.masked := by
  refine list_ext (by rw [masked_len, masked_len, hl]) fun k hk => ?_
  rw [masked_len, hl] at hk
  rw [masked_get hk, masked_get (by rw [hl]; exact hk), hh]
  cases e : m.holds (k + 1) with
  | true => rfl
  | false => rw [h k hk e]
/-- one cell has -/
theorem masked_put {m m' : M} {c t : Nat} (hl : m'.links.length = m.links.length) (hc : 1 ≤ c ∧ c ≤ m.links.length) (hh : ∀ k, k ≠ c → m'.holds k = m.holds k) (h : ∀ k, k < m.links.length → k + 1 ≠ c → m'.links.getD k 0 = m.links.getD k 0)
    (ht : (if m'.holds c then 0 else m'.links.getD (c - 1) 0) = t) : m'.masked = m.masked.set (c - 1) t := by
  refine list_ext (by rw [List.length_set, masked_len, masked_len, hl]) fun k hk => ?_
  rw [masked_len, hl] at hk
  rw [masked_get (by rw [hl]; exact hk), List.getElem?_set]
  by_cases e : c - 1 = k
  · have e1 : k + 1 = c := by omega
    have e2 : c - 1 < m.masked.length := by rw [masked_len]; omega
    rw [if_pos e, if_pos e2, e1, ← ht, ← e]
  · rw [if_neg e, masked_get hk, hh _ (by omega), h k hk (by omega)]
/-- a new cell -/
theorem masked_new {m m' : M} (hl : m'.links.length = m.links.length + 1) (hh : ∀ k, k ≠ m.links.length + 1 → m'.holds k = m.holds k) (h : ∀ k, k < m.links.length → m'.links.getD k 0 = m.links.getD k 0) (ht : m'.holds (m.links.length + 1) = true) : m'.masked = m.masked ++ [0] := by
  refine list_ext (by rw [List.length_append, masked_len, masked_len, hl]; rfl) fun k hk => ?_
  rw [masked_len, hl] at hk
  rw [masked_get (by omega)]
  by_cases e : k = m.links.length
  · subst e
    rw [ht, List.getElem?_append_right (by rw [masked_len]; omega), masked_len, Nat.sub_self]
    rfl
  · rw [List.getElem?_append_left (by rw [masked_len]; omega), masked_get (by omega), hh _ (by omega), h k (by omega)]
section
variable {m m' : M} {h : Nat} {x : Hd}
theorem cores_set (hl : h < m.hands.length) (eh : m'.hands.length = m.hands.length) (ep : ∀ i, m'.prog i = m.prog i) (e1 : m'.hd h = x) (e2 : ∀ i, i ≠ h → m'.hd i = m.hd i) : m'.cores = m.cores.set h (core (m.prog h) x) := by
  apply List.ext_getElem?
  intro i
  unfold M.cores
  rw [eh, List.getElem?_set, List.getElem?_map]
  by_cases hi : h = i
  · subst hi
    rw [if_pos rfl, List.length_map, List.length_range, if_pos hl, List.getElem?_range hl, Option.map_some, ep, e1]
  · rw [if_neg hi, List.getElem?_map]
    by_cases hk : i < m.hands.length
    · rw [List.getElem?_range hk, Option.map_some, Option.map_some, ep, e2 i (fun z => hi z.symm)]
    · rw [List.getElem?_eq_none (by rw [List.length_range]; omega)]
      rfl
theorem cores_same (hl : h < m.hands.length) (eh : m'.hands.length = m.hands.length) (ep : ∀ i, m'.prog i = m.prog i) (e1 : m'.hd h = x) (e2 : ∀ i, i ≠ h → m'.hd i = m.hd i) (ec : core (m.prog h) x = core (m.prog h) (m.hd h)) : m'.cores = m.cores := by
  rw [cores_set hl eh ep e1 e2, ec]
  apply List.ext_getElem?
  intro i
  rw [List.getElem?_set]
  by_cases hi : h = i
  · subst hi
    unfold M.cores
    rw [if_pos rfl, List.length_map, List.length_range, if_pos hl, List.getElem?_map, List.getElem?_range hl]
    rfl
  · rw [if_neg hi]
theorem cores_get (hl : h < m.hands.length) : m.cores.getD h {} = core (m.prog h) (m.hd h) := by
  unfold M.cores
  rw [List.getD_eq_getElem?_getD, List.getElem?_map, List.getElem?_range hl]
  rfl
/-- who holds what, when one hand has changed -/
theorem holds_set (ep : ∀ i, m'.prog i = m.prog i) (e1 : m'.hd h = x) (e2 : ∀ i, i ≠ h → m'.hd i = m.hd i) {c : Nat} (hx : (pushOf (m.prog h) x = true ∧ x.cell = c) ↔ (m.pushing h = true ∧ (m.hd h).cell = c)) : m'.holds c = m.holds c := by
  have key : m'.holds c = true ↔ m.holds c = true := by
    rw [holds_iff, holds_iff]
    constructor
    · rintro ⟨i, h1, h2⟩
      by_cases e : i = h
      · subst e
        refine ⟨i, hx.mp ⟨?_, by rw [← e1]; exact h2⟩⟩
        unfold M.pushing at h1
        rw [ep, e1] at h1
        exact h1
      · refine ⟨i, ?_, by rw [← e2 i e]; exact h2⟩
        unfold M.pushing at h1 ⊢
        rw [ep, e2 i e] at h1
        exact h1
    · rintro ⟨i, h1, h2⟩
      by_cases e : i = h
      · subst e
        obtain ⟨a, b⟩ := hx.mpr ⟨h1, h2⟩
        refine ⟨i, ?_, by rw [e1]; exact b⟩
        unfold M.pushing
        rw [ep, e1]
        exact a
      · refine ⟨i, ?_, by rw [e2 i e]; exact h2⟩
        unfold M.pushing at h1 ⊢
        rw [ep, e2 i e]
        exact h1
  cases a : m'.holds c <;> cases b : m.holds c
  · rfl
  · exact absurd (key.mpr b) (by rw [a]; decide)
  · exact absurd (key.mp a) (by rw [b]; decide)
  · rfl
end
end SS

set_option linter.all false
namespace SS
section
variable {m m1 : M} {h : Nat} {x : Hd} {hist : List (Nat × Nat)}
/-- a step that only the hand's own readings tell of -/
theorem sig_quiet (hl : h < m.hands.length) (ea : x.at_ = (m.hd h).at_) (ec : x.cell = (m.hd h).cell) (hn : ¬ ((m.prog h)[(m.hd h).at_]? = some .pop ∧ (m.hd h).cell ≠ 0))
    (eh : m1.hands = m.hands) (ep : m1.progs = m.progs) (ll : m1.links.length = m.links.length) (el : ∀ k, k < m.links.length → m.holds (k + 1) = false → m1.links.getD k 0 = m.links.getD k 0) (et : m1.top = m.top) (ek : m1.count = m.count) (ef : m1.freed = m.freed) : (m1.setH h x).sig hist = m.sig hist := by
  have H := set_hh (x := x) eh hl
  have N := fun j n => set_hn (x := x) eh hl (j := j) n
  have P : ∀ j, (m1.setH h x).prog j = m.prog j := fun j => by show m1.progs.getD j [] = _; rw [ep]; rfl
  have eP : pushOf (m.prog h) x = pushOf (m.prog h) (m.hd h) := by unfold pushOf; rw [ea, ec]
  have e1 : (m1.setH h x).masked = m.masked := by
    refine masked_same ll (fun c => holds_set P H N ?_) el
    rw [eP, ec]
    rfl
  have e2 : (m1.setH h x).cores = m.cores := by
    refine cores_same hl (by rw [M.setH_len, eh]) P H N ?_
    unfold core
    rw [ea, ec, if_neg hn, if_neg hn]
  unfold M.sig
  rw [e1, e2]
  show Sig.mk _ m1.top m1.count m1.freed _ _ = _
  rw [et, ek, ef]
end
/-- what a step of a hand may do -/
structure Goes (C : Nat) (ps : List (List Deed)) (r : Rule) (m m' : M) (h : Nat) (hist : List (Nat × Nat)) : Prop where
  ex : ∃ hist', (∀ s ∈ hist, s ∈ hist') ∧ Shape C r h hist' (m.prog h) (m'.hd h) ∧ (m'.top, m'.count) ∈ hist' ∧ (m'.sig hist' = m.sig hist ∨ m'.sig hist' ∈ (m.sig hist).nexts ps r h)
theorem push_at {p : List Deed} {x : Hd} {v : Int} (h : p[x.at_]? = some (.push v)) (c : x.cell ≠ 0) : pushOf p x = true := by
  unfold pushOf
  rw [h]
  exact decide_eq_true c
theorem push_no {p : List Deed} {x : Hd} (c : x.cell = 0) : pushOf p x = false := by
  unfold pushOf
  split
  · exact decide_eq_false fun z => z c
  · rfl
theorem push_pop {p : List Deed} {x : Hd} (h : p[x.at_]? = some .pop) : pushOf p x = false := by
  unfold pushOf
  rw [h]
section
variable {C : Nat} {values : List Int} {ps : List (List Deed)} {r : Rule} {m : M} {p : List Nat} {h : Nat} {hist : List (Nat × Nat)}
theorem goes_same {m' : M} (hs : Shape C r h hist (m.prog h) (m'.hd h)) (t : (m'.top, m'.count) ∈ hist) (e : m'.sig hist = m.sig hist) : Goes C ps r m m' h hist := ⟨hist, fun _ z => z, hs, t, .inl e⟩
theorem sig_next (f : Fine ps r m) (hl : h < ps.length) : (m.sig hist).nexts ps r h = (m.sig hist).nextOf r h (core (m.prog h) (m.hd h)) ((m.prog h)[(m.hd h).at_]?) := by
  have hl' : h < m.hands.length := by rw [f.hn]; exact hl
  have e1 : (m.sig hist).hs.getD h {} = core (m.prog h) (m.hd h) := cores_get hl'
  have e2 : (core (m.prog h) (m.hd h)).at_ = (m.hd h).at_ := by
    unfold core
    split <;> rfl
  unfold Sig.nexts
  rw [e1, e2]
  congr 2 <;> try rfl
  show ps.getD h [] = m.progs.getD h []
  rw [f.progs]
theorem core_at {p : List Deed} {x : Hd} : (core p x).at_ = x.at_ := by
  unfold core
  split <;> rfl
theorem core_cell {p : List Deed} {x : Hd} : (core p x).cell = x.cell := by
  unfold core
  split <;> rfl
theorem core_new {p : List Deed} {x : Hd} {a : Nat} (h1 : x.cell = 0) (h2 : x.at_ = a) : core p x = { at_ := a } := by
  unfold core
  rw [if_neg (fun z => z.2 h1), h1, h2]
theorem top_mem (L : Lin values m p) (t : m.top ≠ 0) : m.top ∈ p := by
  have c := L.ch
  cases p with
  | nil => exact absurd c t
  | cons a q => rw [c.1]; exact List.mem_cons_self
theorem bare_eq {x y : Hd} (e : x.bare = y) : x.at_ = y.at_ ∧ x.cell = y.cell ∧ x.seen = y.seen ∧ x.follow = y.follow ∧ x.mark = y.mark ∧ x.looked = y.looked := by
  subst e
  exact ⟨rfl, rfl, rfl, rfl, rfl, rfl⟩
theorem bare_of {x y : Hd} (h1 : x.at_ = y.at_) (h2 : x.cell = y.cell) (h3 : x.seen = y.seen) (h4 : x.follow = y.follow) (h5 : x.mark = y.mark) (h6 : x.looked = y.looked) (h7 : y.said = []) : x.bare = y := by
  cases x
  cases y
  simp only at h1 h2 h3 h4 h5 h6 h7
  subst h1 h2 h3 h4 h5 h6 h7
  rfl
section
variable {C h : Nat} {r : Rule} {hist : List (Nat × Nat)} {p : List Deed} {x : Hd}
theorem Shape.inv_take {v : Int} (S : Shape C r h hist p x) (hd : p[x.at_]? = some (.push v)) (hc : x.cell = 0) : x.bare = { at_ := x.at_ } := by
  cases S with
  | has v a b c => exact absurd hc b
  | saw v s hs a b c => exact absurd hc b
  | linked v s hs a b c => exact absurd hc b
  | take v a b => exact b
  | rest a b => rw [hd] at a; cases a
  | popN k hk a b c => rw [hd] at a; cases a
  | popS s hs k hk a b c => rw [hd] at a; cases a
  | popL s hs f hf a b c => rw [hd] at a; cases a
  | popU a b c => rw [hd] at a; cases a
  | popF s hs f hf a b c => rw [hd] at a; cases a
  | done a b => rw [hd] at a; cases a
theorem Shape.inv_push {v : Int} (S : Shape C r h hist p x) (hd : p[x.at_]? = some (.push v)) (hc : x.cell ≠ 0) :
    x.mark = 0 ∧ x.looked = false ∧ ((x.seen = none ∧ x.follow = none) ∨ ∃ s, s ∈ hist ∧ x.seen = some s ∧ (x.follow = none ∨ x.follow = some s.1)) := by
  cases S with
  | has v a b c =>
    obtain ⟨_, _, c3, c4, c5, c6⟩ := bare_eq c
    exact ⟨c5, c6, .inl ⟨c3, c4⟩⟩
  | saw v s hs a b c =>
    obtain ⟨_, _, c3, c4, c5, c6⟩ := bare_eq c
    exact ⟨c5, c6, .inr ⟨s, hs, c3, .inl c4⟩⟩
  | linked v s hs a b c =>
    obtain ⟨_, _, c3, c4, c5, c6⟩ := bare_eq c
    exact ⟨c5, c6, .inr ⟨s, hs, c3, .inr c4⟩⟩
  | take v a b => exact absurd (bare_eq b).2.1 hc
  | rest a b => rw [hd] at a; cases a
  | popN k hk a b c => rw [hd] at a; cases a
  | popS s hs k hk a b c => rw [hd] at a; cases a
  | popL s hs f hf a b c => rw [hd] at a; cases a
  | popU a b c => rw [hd] at a; cases a
  | popF s hs f hf a b c => rw [hd] at a; cases a
  | done a b => rw [hd] at a; cases a
theorem Shape.inv_pop (S : Shape C r h hist p x) (hd : p[x.at_]? = some .pop) (hc : x.cell = 0) :
    (r.named h = true ∧ ((∃ k, k ∈ 0 :: hist.map Prod.fst ∧ x.mark = k ∧ x.looked = false ∧ x.follow = none ∧ (x.seen = none ∨ ∃ s, s ∈ hist ∧ x.seen = some s)) ∨ ∃ s, s ∈ hist ∧ x.seen = some s ∧ x.mark = s.1 ∧ x.looked = true ∧ ∀ n, x.follow = some n → n ≤ C)) ∨
    (r.named h = false ∧ x.mark = 0 ∧ x.looked = false ∧ ((x.seen = none ∧ x.follow = none) ∨ ∃ s, s ∈ hist ∧ x.seen = some s ∧ ∀ n, x.follow = some n → n ≤ C)) := by
  cases S with
  | has v a b c => rw [hd] at a; cases a
  | saw v s hs a b c => rw [hd] at a; cases a
  | linked v s hs a b c => rw [hd] at a; cases a
  | take v a b => rw [hd] at a; cases a
  | rest a b => rw [hd] at a; cases a
  | popN k hk a b c =>
    obtain ⟨_, _, c3, c4, c5, c6⟩ := bare_eq c
    exact .inl ⟨b, .inl ⟨k, hk, c5, c6, c4, .inl c3⟩⟩
  | popS s hs k hk a b c =>
    obtain ⟨_, _, c3, c4, c5, c6⟩ := bare_eq c
    exact .inl ⟨b, .inl ⟨k, hk, c5, c6, c4, .inr ⟨s, hs, c3⟩⟩⟩
  | popL s hs f hf a b c =>
    obtain ⟨_, _, c3, c4, c5, c6⟩ := bare_eq c
    exact .inl ⟨b, .inr ⟨s, hs, c3, c5, c6, fun n z => hf n (by rw [← z, c4])⟩⟩
  | popU a b c =>
    obtain ⟨_, _, c3, c4, c5, c6⟩ := bare_eq c
    exact .inr ⟨b, c5, c6, .inl ⟨c3, c4⟩⟩
  | popF s hs f hf a b c =>
    obtain ⟨_, _, c3, c4, c5, c6⟩ := bare_eq c
    exact .inr ⟨b, c5, c6, .inr ⟨s, hs, c3, fun n z => hf n (by rw [← z, c4])⟩⟩
  | done a b => exact absurd hc b
end
theorem goes (f : Fine ps r m) (L : Lin values m p) (hl : h < ps.length) (e : (m.step h).strayed = false) (S : Shape C r h hist (m.prog h) (m.hd h)) (T : (m.top, m.count) ∈ hist) (hC : m.worths.length ≤ C) : Goes C ps r m (m.step h) h hist := by
  have hl' : h < m.hands.length := by rw [f.hn]; exact hl
  have K := f.hand h
  have nx := sig_next (hist := hist) f hl
  have ll := L.ll
  have mv := move m h
  have tr : m.turned = turnedC r m.count := by
    unfold M.turned turnedC
    rw [f.rule]
    all_goals (cases r <;> rfl)
  have ern := f.rule
  have xt : m.top ∈ 0 :: hist.map Prod.fst := List.mem_cons_of_mem _ (List.mem_map.mpr ⟨_, T, rfl⟩)
  have lC : ∀ k, m.links.getD k 0 ≤ C := fun k => Nat.le_trans (getD_le f.good.links) hC
  generalize (m.turn h).1 = t at mv
  generalize hm' : m.step h = m' at mv e
  cases mv with
  | rests hd => exact goes_same S T rfl
  | readsQ v hd hc hs =>
    have n : ¬ ((m.prog h)[(m.hd h).at_]? = some .pop ∧ (m.hd h).cell ≠ 0) := fun z => by rw [hd] at z; cases z.1
    refine goes_same ?_ T (sig_quiet hl' rfl rfl n rfl rfl rfl (fun _ _ _ => rfl) rfl rfl rfl)
    rw [set_hh rfl hl']
    obtain ⟨i1, i2, i3 | ⟨s, _, i3, _⟩⟩ := S.inv_push hd hc
    · exact .saw v _ T hd hc (bare_of rfl rfl rfl i3.2 i1 i2 rfl)
    · rw [hs] at i3
      cases i3
  | readsP hd hs ht =>
    have hc : (m.hd h).cell = 0 := by
      apply Classical.byContradiction
      exact fun z => K.popS hd z hs
    have n : ¬ ((m.prog h)[(m.hd h).at_]? = some .pop ∧ (m.hd h).cell ≠ 0) := fun z => z.2 hc
    refine goes_same ?_ T (sig_quiet hl' rfl rfl n rfl rfl rfl (fun _ _ _ => rfl) rfl rfl rfl)
    rw [set_hh rfl hl']
    rcases S.inv_pop hd hc with ⟨hn, ⟨k, hk, i1, i2, i3, _⟩ | ⟨s, _, i3, _⟩⟩ | ⟨hn, i1, i2, i3 | ⟨s, _, i3, _⟩⟩
    · exact .popS _ T k hk hd hn (bare_of rfl hc rfl i3 i1 i2 rfl)
    · rw [hs] at i3
      cases i3
    · exact .popF _ T none (fun n z => by cases z) hd hn (bare_of rfl hc rfl i3.2 i1 i2 rfl)
    · rw [hs] at i3
      cases i3
  | missQ v s g hd hc hs hf hn =>
    have n : ¬ ((m.prog h)[(m.hd h).at_]? = some .pop ∧ (m.hd h).cell ≠ 0) := fun z => by rw [hd] at z; cases z.1
    refine goes_same ?_ T (sig_quiet hl' rfl rfl n rfl rfl rfl (fun _ _ _ => rfl) rfl rfl rfl)
    rw [set_hh rfl hl']
    obtain ⟨i1, i2, _⟩ := S.inv_push hd hc
    exact .has v hd hc (bare_of rfl rfl rfl rfl i1 rfl rfl)
  | links v s hd hc hs hf =>
    have n : ¬ ((m.prog h)[(m.hd h).at_]? = some .pop ∧ (m.hd h).cell ≠ 0) := fun z => by rw [hd] at z; cases z.1
    refine goes_same ?_ T (sig_quiet hl' rfl rfl n rfl rfl (by simp) (fun k hk nh => ?_) rfl rfl rfl)
    · rw [set_hh (m1 := { m with links := m.links.set ((m.hd h).cell - 1) s.1 }) (m := m) rfl hl']
      obtain ⟨i1, i2, i3 | ⟨s', hs', i3, _⟩⟩ := S.inv_push hd hc
      · rw [hs] at i3
        cases i3.1
      · rw [hs] at i3
        cases i3
        exact .linked v s hs' hd hc (bare_of rfl rfl hs rfl i1 i2 rfl)
    · refine getD_set_ne fun z => ?_
      have : m.holds (k + 1) = true := holds_iff.mpr ⟨h, push_at hd hc, by omega⟩
      rw [nh] at this
      cases this
  | marks s hd hs hc hn hk hm =>
    have n : ¬ ((m.prog h)[(m.hd h).at_]? = some .pop ∧ (m.hd h).cell ≠ 0) := fun z => z.2 hc
    refine goes_same ?_ T (sig_quiet hl' rfl rfl n rfl rfl rfl (fun _ _ _ => rfl) rfl rfl rfl)
    rw [set_hh rfl hl']
    rw [ern] at hn
    rcases S.inv_pop hd hc with ⟨_, ⟨k, hk', i1, i2, i3, z | ⟨s', hs', i4⟩⟩ | ⟨s', _, i3, i4, i5, _⟩⟩ | ⟨hn', _⟩
    · rw [hs] at z
      cases z
    · rw [hs] at i4
      cases i4
      exact .popS s hs' s.1 (List.mem_cons_of_mem _ (List.mem_map.mpr ⟨_, hs', rfl⟩)) hd hn (bare_of rfl hc hs i3 rfl i2 rfl)
    · rw [hk] at i5
      cases i5
    · rw [hn] at hn'
      cases hn'
  | looksF s hd hs hc hn hk hm ht =>
    have n : ¬ ((m.prog h)[(m.hd h).at_]? = some .pop ∧ (m.hd h).cell ≠ 0) := fun z => z.2 hc
    refine goes_same ?_ T (sig_quiet hl' rfl rfl n rfl rfl rfl (fun _ _ _ => rfl) rfl rfl rfl)
    rw [set_hh rfl hl']
    rw [ern] at hn
    rcases S.inv_pop hd hc with ⟨_, ⟨k, hk', i1, i2, i3, _⟩ | ⟨s', _, i3, i4, i5, _⟩⟩ | ⟨hn', _⟩
    · exact .popN k hk' hd hn (bare_of rfl hc rfl rfl i1 rfl rfl)
    · rw [hk] at i5
      cases i5
    · rw [hn] at hn'
      cases hn'
  | looksT s hd hs hc hn hk hm ht =>
    have n : ¬ ((m.prog h)[(m.hd h).at_]? = some .pop ∧ (m.hd h).cell ≠ 0) := fun z => z.2 hc
    refine goes_same ?_ T (sig_quiet hl' rfl rfl n rfl rfl rfl (fun _ _ _ => rfl) rfl rfl rfl)
    rw [set_hh rfl hl']
    rw [ern] at hn
    rcases S.inv_pop hd hc with ⟨_, ⟨k, hk', i1, i2, i3, z | ⟨s', hs', i4⟩⟩ | ⟨s', _, i3, i4, i5, _⟩⟩ | ⟨hn', _⟩
    · rw [hs] at z
      cases z
    · rw [hs] at i4
      cases i4
      exact .popL s hs' none (fun n z => by cases z) hd hn (bare_of rfl hc hs i3 hm rfl rfl)
    · rw [hk] at i5
      cases i5
    · rw [hn] at hn'
      cases hn'
  | follows s hd hs hc hn hf =>
    have n : ¬ ((m.prog h)[(m.hd h).at_]? = some .pop ∧ (m.hd h).cell ≠ 0) := fun z => z.2 hc
    refine goes_same ?_ T (sig_quiet hl' rfl rfl n rfl rfl rfl (fun _ _ _ => rfl) rfl rfl rfl)
    rw [set_hh rfl hl']
    rw [ern] at hn
    rcases S.inv_pop hd hc with ⟨hn', ⟨k, hk', i1, i2, i3, _⟩ | ⟨s', hs', i3, i4, i5, _⟩⟩ | ⟨hn', i1, i2, i3 | ⟨s', hs', i3, _⟩⟩
    · exact absurd ⟨hn', i2⟩ hn
    · exact .popL s' hs' (some (m.links.getD (s.1 - 1) 0)) (fun n z => by cases z; exact lC _) hd hn' (bare_of rfl hc i3 rfl i4 i5 rfl)
    · rw [hs] at i3
      cases i3.1
    · exact .popF s' hs' (some (m.links.getD (s.1 - 1) 0)) (fun n z => by cases z; exact lC _) hd hn' (bare_of rfl hc i3 rfl i1 i2 rfl)
  | missP s g hd hs hc hn hf hx =>
    have n : ¬ ((m.prog h)[(m.hd h).at_]? = some .pop ∧ (m.hd h).cell ≠ 0) := fun z => z.2 hc
    refine goes_same ?_ T (sig_quiet hl' rfl rfl n rfl rfl rfl (fun _ _ _ => rfl) rfl rfl rfl)
    rw [set_hh rfl hl']
    rw [ern] at hn
    rcases S.inv_pop hd hc with ⟨hn', ⟨k, hk', i1, i2, i3, _⟩ | ⟨s', hs', i3, i4, i5, _⟩⟩ | ⟨hn', i1, i2, _⟩
    · exact absurd ⟨hn', i2⟩ hn
    · exact .popN s'.1 (List.mem_cons_of_mem _ (List.mem_map.mpr ⟨_, hs', rfl⟩)) hd hn' (bare_of rfl hc rfl rfl i4 rfl rfl)
    · exact .popU hd hn' (bare_of rfl hc rfl rfl i1 rfl rfl)
  | takesF v c hd hc hp =>
    have cm := pick_mem hp
    obtain ⟨c1, c2, _⟩ := L.fin c cm
    have H := set_hh (m := m) (m1 := { m with freed := m.freed.erase c, worths := m.worths.set (c - 1) v }) (x := { m.hd h with cell := c }) rfl hl'
    have N := fun j n => set_hn (m := m) (m1 := { m with freed := m.freed.erase c, worths := m.worths.set (c - 1) v }) (x := { m.hd h with cell := c }) rfl hl' (j := j) n
    generalize hm2 : M.setH _ h _ = m2 at H N ⊢
    have P : ∀ j, m2.prog j = m.prog j := fun j => by rw [← hm2]; rfl
    have e1 : m2.masked = m.masked.set (c - 1) 0 := by
      refine masked_put (by rw [← hm2]; rfl) ⟨c1, by rw [ll]; exact c2⟩ (fun k hk => holds_set P H N ⟨fun z => absurd z.2.symm hk, fun z => ?_⟩) (fun k _ _ => by rw [← hm2]; rfl) ?_
      · have : m.pushing h = false := push_no hc
        rw [this] at z
        cases z.1
      · have : m2.holds c = true := holds_iff.mpr ⟨h, by unfold M.pushing; rw [P, H]; exact push_at (x := { m.hd h with cell := c }) hd (by show c ≠ 0; omega), by rw [H]⟩
        rw [this]
        rfl
    have e2 := cores_set hl' (m' := m2) (by rw [← hm2]; exact M.setH_len) P H N
    refine ⟨hist, fun _ z => z, ?_, by rw [← hm2]; exact T, .inr ?_⟩
    · rw [H]
      have b := bare_eq (S.inv_take hd hc)
      exact .has v hd (by show c ≠ 0; omega) (bare_of rfl rfl b.2.2.1 b.2.2.2.1 b.2.2.2.2.1 b.2.2.2.2.2 rfl)
    · rw [nx, hd]
      show _ ∈ (if (core (m.prog h) (m.hd h)).cell = 0 then _ else _ : List Sig)
      rw [if_pos (by rw [core_cell]; exact hc)]
      refine List.mem_cons_of_mem _ (List.mem_map.mpr ⟨c, List.mem_filter.mpr ⟨cm, decide_eq_true (by omega)⟩, ?_⟩)
      unfold M.sig
      rw [e1, e2, core_at]
      have e3 : core (m.prog h) { m.hd h with cell := c } = { at_ := (m.hd h).at_, cell := c } := by
        unfold core
        rw [if_neg (fun z => by have z1 : (m.prog h)[(m.hd h).at_]? = some .pop := z.1; rw [hd] at z1; cases z1)]
      rw [e3, ← hm2]
      rfl
  | takesN v hd hc hp =>
    have H := set_hh (m := m) (m1 := { m with worths := m.worths ++ [v], links := m.links ++ [0] }) (x := { m.hd h with cell := m.worths.length + 1 }) rfl hl'
    have N := fun j n => set_hn (m := m) (m1 := { m with worths := m.worths ++ [v], links := m.links ++ [0] }) (x := { m.hd h with cell := m.worths.length + 1 }) rfl hl' (j := j) n
    generalize hm2 : M.setH _ h _ = m2 at H N ⊢
    have P : ∀ j, m2.prog j = m.prog j := fun j => by rw [← hm2]; rfl
    have e1 : m2.masked = m.masked ++ [0] := by
      refine masked_new (by rw [← hm2]; exact List.length_append) (fun k hk => holds_set P H N ⟨fun z => absurd (by rw [ll]; exact z.2.symm) hk, fun z => ?_⟩) (fun k hk => ?_) ?_
      · have : m.pushing h = false := push_no hc
        rw [this] at z
        cases z.1
      · rw [← hm2]
        show (m.links ++ [0]).getD k 0 = _
        rw [List.getD_eq_getElem?_getD, List.getElem?_append_left hk, List.getD_eq_getElem?_getD]
      · exact holds_iff.mpr ⟨h, by unfold M.pushing; rw [P, H]; exact push_at (x := { m.hd h with cell := m.worths.length + 1 }) hd (Nat.succ_ne_zero _), by rw [H, ll]⟩
    have e2 := cores_set hl' (m' := m2) (by rw [← hm2]; exact M.setH_len) P H N
    refine ⟨hist, fun _ z => z, ?_, by rw [← hm2]; exact T, .inr ?_⟩
    · rw [H]
      have b := bare_eq (S.inv_take hd hc)
      exact .has v hd (Nat.succ_ne_zero _) (bare_of rfl rfl b.2.2.1 b.2.2.2.1 b.2.2.2.2.1 b.2.2.2.2.2 rfl)
    · rw [nx, hd]
      show _ ∈ (if (core (m.prog h) (m.hd h)).cell = 0 then _ else _ : List Sig)
      rw [if_pos (by rw [core_cell]; exact hc)]
      refine List.mem_cons.mpr (.inl ?_)
      unfold M.sig
      rw [e1, e2, core_at]
      have e3 : core (m.prog h) { m.hd h with cell := m.worths.length + 1 } = { at_ := (m.hd h).at_, cell := m.worths.length + 1 } := by
        unfold core
        rw [if_neg (fun z => by have z1 : (m.prog h)[(m.hd h).at_]? = some .pop := z.1; rw [hd] at z1; cases z1)]
      rw [e3, ← hm2]
      show Sig.mk _ m.top m.count m.freed (m.cores.set h { at_ := _, cell := m.worths.length + 1 }) hist = Sig.mk _ m.top m.count m.freed (m.cores.set h { at_ := _, cell := m.masked.length + 1 }) hist
      rw [masked_len, ll]
  | empty hd hs ht =>
    have hc : (m.hd h).cell = 0 := by
      apply Classical.byContradiction
      exact fun z => K.popS hd z hs
    have H := set_hh (m := m) (m1 := { m with ends := m.ends ++ [(h, (m.hd h).at_)] }) (x := (m.hd h).ended .non) rfl hl'
    have N := fun j n => set_hn (m := m) (m1 := { m with ends := m.ends ++ [(h, (m.hd h).at_)] }) (x := (m.hd h).ended .non) rfl hl' (j := j) n
    generalize hm2 : M.setH _ h _ = m2 at H N ⊢
    have P : ∀ j, m2.prog j = m.prog j := fun j => by rw [← hm2]; rfl
    have e1 : m2.masked = m.masked := masked_same (by rw [← hm2]; rfl) (fun c => holds_set P H N ⟨fun z => by have : pushOf (m.prog h) ((m.hd h).ended .non) = false := push_no rfl; rw [this] at z; exact absurd z.1 (by decide), fun z => by have : m.pushing h = false := push_pop hd; rw [this] at z; cases z.1⟩) (fun k _ _ => by rw [← hm2]; rfl)
    have e2 := cores_set hl' (m' := m2) (by rw [← hm2]; exact M.setH_len) P H N
    refine ⟨hist, fun _ z => z, ?_, by rw [← hm2]; exact T, .inr ?_⟩
    · rw [H]
      exact Shape.new rfl
    · rw [nx, hd]
      show _ ∈ (if (core (m.prog h) (m.hd h)).cell = 0 then (if m.top = 0 then _ else _) else _ : List Sig)
      rw [if_pos (by rw [core_cell]; exact hc), if_pos ht]
      refine List.mem_singleton.mpr ?_
      unfold M.sig
      rw [e1, e2, core_at, core_new rfl rfl, ← hm2]
      rfl
  | popped s hd hs hc =>
    have H := set_hh (m := m) (m1 := { m with freed := m.freed ++ [(m.hd h).cell] }) (x := (m.hd h).ended (.val (m.worths.getD ((m.hd h).cell - 1) 0))) rfl hl'
    have N := fun j n => set_hn (m := m) (m1 := { m with freed := m.freed ++ [(m.hd h).cell] }) (x := (m.hd h).ended (.val (m.worths.getD ((m.hd h).cell - 1) 0))) rfl hl' (j := j) n
    generalize hm2 : M.setH _ h _ = m2 at H N ⊢
    have P : ∀ j, m2.prog j = m.prog j := fun j => by rw [← hm2]; rfl
    have e1 : m2.masked = m.masked := masked_same (by rw [← hm2]; rfl) (fun c => holds_set P H N ⟨fun z => by have : pushOf (m.prog h) ((m.hd h).ended (.val (m.worths.getD ((m.hd h).cell - 1) 0))) = false := push_no rfl; rw [this] at z; exact absurd z.1 (by decide), fun z => by have : m.pushing h = false := push_pop hd; rw [this] at z; cases z.1⟩) (fun k _ _ => by rw [← hm2]; rfl)
    have e2 := cores_set hl' (m' := m2) (by rw [← hm2]; exact M.setH_len) P H N
    refine ⟨hist, fun _ z => z, ?_, by rw [← hm2]; exact T, .inr ?_⟩
    · rw [H]
      exact Shape.new rfl
    · rw [nx, hd]
      show _ ∈ (if (core (m.prog h) (m.hd h)).cell = 0 then (if m.top = 0 then _ else _) else _ : List Sig)
      rw [if_neg (by rw [core_cell]; exact hc)]
      refine List.mem_singleton.mpr ?_
      unfold M.sig
      rw [e1, e2, core_at, core_cell, core_new rfl rfl, ← hm2]
      rfl
  | pushed v g hd hc hs hf =>
    obtain ⟨_, lk, c0, sk⟩ := L.lnk h v g hd hf
    rw [hs] at sk
    have eg : m.top = g := by injection sk with sk; exact congrArg Prod.fst sk
    have cw := (L.cin h hc).1
    have H := set_hh (m := m) (m1 := m.exchd h (m.hd h).cell) (x := (m.hd h).ended .done) rfl hl'
    have N := fun j n => set_hn (m := m) (m1 := m.exchd h (m.hd h).cell) (x := (m.hd h).ended .done) rfl hl' (j := j) n
    generalize hm2 : M.setH _ h _ = m2 at H N ⊢
    have P : ∀ j, m2.prog j = m.prog j := fun j => by rw [← hm2]; rfl
    have e1 : m2.masked = m.masked.set ((m.hd h).cell - 1) m.top := by
      refine masked_put (by rw [← hm2]; rfl) ⟨by omega, by rw [ll]; exact cw⟩ (fun k hk => holds_set P H N ⟨fun z => by have : pushOf (m.prog h) ((m.hd h).ended .done) = false := push_no rfl; rw [this] at z; exact absurd z.1 (by decide), fun z => absurd z.2.symm hk⟩) (fun k _ _ => by rw [← hm2]; rfl) ?_
      have : m2.holds (m.hd h).cell = false := by
        cases q : m2.holds (m.hd h).cell with
        | false => rfl
        | true =>
          obtain ⟨i, h1, h2⟩ := holds_iff.mp q
          by_cases ei : i = h
          · subst ei
            rw [H] at h2
            exact absurd h2.symm hc
          · rw [N i ei] at h2
            exact absurd h2.symm (L.cne h i (fun z => ei z.symm) hc)
      rw [this, eg, ← lk, ← hm2]
      rfl
    have e2 := cores_set hl' (m' := m2) (by rw [← hm2]; exact M.setH_len) P H N
    refine ⟨hist ++ [((m.hd h).cell, turnedC r m.count)], fun _ z => List.mem_append_left _ z, ?_, ?_, .inr ?_⟩
    · rw [H]
      exact Shape.new rfl
    · rw [← hm2]
      refine List.mem_append_right _ (List.mem_singleton.mpr ?_)
      show ((m.hd h).cell, m.turned) = _
      rw [tr]
    · rw [nx, hd]
      show _ ∈ (if (core (m.prog h) (m.hd h)).cell = 0 then _ else _ : List Sig)
      rw [if_neg (by rw [core_cell]; exact hc)]
      refine List.mem_singleton.mpr ?_
      unfold M.sig
      rw [e1, e2, core_at, core_cell, core_new rfl rfl, ← tr, ← hm2]
      rfl
  | exchanges g hd hs hc hn hf =>
    have e' : (m.strayed || m.links.getD (m.top - 1) 0 != g) = false := e
    rw [Bool.or_eq_false_iff] at e'
    have ek : m.links.getD (m.top - 1) 0 = g := by simpa using e'.2
    have t0 : m.top ≠ 0 := by have := K.popC _ hd hs; omega
    have tl : m.top ≤ m.links.length := by rw [ll]; exact f.good.top
    have tp : m.holds m.top = false := by
      cases q : m.holds m.top with
      | false => rfl
      | true =>
        obtain ⟨i, h1, h2⟩ := holds_iff.mp q
        have ci : (m.hd i).cell ≠ 0 := by rw [h2]; exact t0
        exact absurd (by rw [h2]; exact top_mem L t0) (L.cin i ci).2.1
    have eM : m.masked.getD (m.top - 1) 0 = g := by
      have h1 : m.top - 1 < m.links.length := by omega
      have h2 : m.top - 1 + 1 = m.top := by omega
      rw [List.getD_eq_getElem?_getD, masked_get h1, h2, tp]
      exact ek
    have H := set_hh (m := m) (m1 := { m.exchd h g with strayed := m.strayed || m.links.getD (m.top - 1) 0 != g }) (x := { m.hd h with cell := m.top }) rfl hl'
    have N := fun j n => set_hn (m := m) (m1 := { m.exchd h g with strayed := m.strayed || m.links.getD (m.top - 1) 0 != g }) (x := { m.hd h with cell := m.top }) rfl hl' (j := j) n
    generalize hm2 : M.setH _ h _ = m2 at H N ⊢
    have P : ∀ j, m2.prog j = m.prog j := fun j => by rw [← hm2]; rfl
    have e1 : m2.masked = m.masked := masked_same (by rw [← hm2]; rfl) (fun c => holds_set P H N ⟨fun z => by have : pushOf (m.prog h) { m.hd h with cell := m.top } = false := push_pop hd; rw [this] at z; exact absurd z.1 (by decide), fun z => by have : m.pushing h = false := push_pop hd; rw [this] at z; cases z.1⟩) (fun k _ _ => by rw [← hm2]; rfl)
    have e2 := cores_set hl' (m' := m2) (by rw [← hm2]; exact M.setH_len) P H N
    refine ⟨hist ++ [(g, turnedC r m.count)], fun _ z => List.mem_append_left _ z, ?_, ?_, .inr ?_⟩
    · rw [H]
      exact .done hd t0
    · rw [← hm2]
      refine List.mem_append_right _ (List.mem_singleton.mpr ?_)
      show (g, m.turned) = _
      rw [tr]
    · rw [nx, hd]
      show _ ∈ (if (core (m.prog h) (m.hd h)).cell = 0 then (if m.top = 0 then _ else _) else _ : List Sig)
      rw [if_pos (by rw [core_cell]; exact hc), if_neg t0]
      refine List.mem_singleton.mpr ?_
      have e3 : core (m.prog h) { m.hd h with cell := m.top } = { at_ := (m.hd h).at_, cell := m.top, seen := some (m.top, m.count), follow := some g, mark := if r.named h then m.top else 0, looked := r.named h } := by
        unfold core
        rw [if_pos ⟨hd, t0⟩]
        rw [ern] at hn
        rcases S.inv_pop hd hc with ⟨hn', ⟨k, hk', i1, i2, i3, _⟩ | ⟨s', hs', i3, i4, i5, _⟩⟩ | ⟨hn', i1, i2, _⟩
        · exact absurd ⟨hn', i2⟩ hn
        · rw [hs] at i3
          cases i3
          exact bare_of rfl rfl hs hf (by rw [hn']; exact i4) (by rw [hn']; exact i5) rfl
        · exact bare_of rfl rfl hs hf (by rw [hn']; exact i1) (by rw [hn']; exact i2) rfl
      unfold M.sig
      rw [e1, e2, core_at, e3]
      show _ = Sig.mk m.masked (m.masked.getD (m.top - 1) 0) _ _ (m.cores.set h { at_ := (m.hd h).at_, cell := m.top, seen := some (m.top, m.count), follow := some (m.masked.getD (m.top - 1) 0), mark := if r.named h then m.top else 0, looked := r.named h }) (hist ++ [(m.masked.getD (m.top - 1) 0, _)])
      rw [eM, ← tr, ← hm2]
      rfl
end
end SS

set_option linter.all false
namespace SS
/-! ### what a hand may have read, given the shared part -/
def fols (C : Nat) : List (Option Nat) := none :: (List.range (C + 1)).map some
def optOf (C : Nat) (r : Rule) (hist : List (Nat × Nat)) (h : Nat) (x : Hd) : Option Deed → List (Hd × Option Nat)
  | none => [(x, none)]
  | some (.push _) =>
    if x.cell = 0 then [(x, none)]
    else ((List.range (C + 1)).map fun l => (x, some l)) ++ ((hist.flatMap fun s => (List.range (C + 1)).map fun l => ({ x with seen := some s }, some l)) ++ hist.map fun s => ({ x with seen := some s, follow := some s.1 }, some s.1))
  | some .pop =>
    if x.cell ≠ 0 then [(x, none)]
    else if r.named h then
      ((0 :: hist.map Prod.fst).map fun k => ({ x with mark := k }, none)) ++ ((hist.flatMap fun s => (0 :: hist.map Prod.fst).map fun k => ({ x with seen := some s, mark := k }, none)) ++
        hist.flatMap fun s => (fols C).map fun f => ({ x with seen := some s, mark := s.1, looked := true, follow := f }, none))
    else (x, none) :: hist.flatMap fun s => (fols C).map fun f => ({ x with seen := some s, follow := f }, none)
def M.loc (m : M) (i : Nat) : Hd × Option Nat := ((m.hd i).bare, if m.pushing i then some (m.links.getD ((m.hd i).cell - 1) 0) else none)
theorem fols_mem {C : Nat} {f : Option Nat} (h : ∀ n, f = some n → n ≤ C) : f ∈ fols C := by
  cases f with
  | none => exact List.mem_cons_self
  | some n => exact List.mem_cons_of_mem _ (List.mem_map.mpr ⟨n, List.mem_range.mpr (by have := h n rfl; omega), rfl⟩)
section
variable {C : Nat} {values : List Int} {ps : List (List Deed)} {r : Rule} {m : M} {p : List Nat} {hist : List (Nat × Nat)} {i : Nat}
theorem loc_mem (f : Fine ps r m) (L : Lin values m p) (S : Shape C r i hist (m.prog i) (m.hd i)) (hC : m.worths.length ≤ C) : m.loc i ∈ optOf C r hist i (core (m.prog i) (m.hd i)) ((m.prog i)[(m.hd i).at_]?) := by
  have lC : ∀ k, m.links.getD k 0 ∈ List.range (C + 1) := fun k => List.mem_range.mpr (by have := Nat.le_trans (getD_le f.good.links (i := k)) hC; omega)
  have co : ¬ ((m.prog i)[(m.hd i).at_]? = some .pop ∧ (m.hd i).cell ≠ 0) → core (m.prog i) (m.hd i) = { at_ := (m.hd i).at_, cell := (m.hd i).cell } := fun n => if_neg n
  have cc := core_cell (p := m.prog i) (x := m.hd i)
  cases S with
  | rest hp e =>
    have ec := (bare_eq e).2.1
    rw [hp]
    refine List.mem_singleton.mpr ?_
    have : m.pushing i = false := push_no ec
    unfold M.loc
    rw [this, e, co (fun z => z.2 ec), ec]
    rfl
  | take v hp e =>
    have ec := (bare_eq e).2.1
    rw [hp]
    show _ ∈ (if _ then _ else _ : List (Hd × Option Nat))
    rw [if_pos (by rw [cc]; exact ec)]
    refine List.mem_singleton.mpr ?_
    have : m.pushing i = false := push_no ec
    unfold M.loc
    rw [this, e, co (fun z => z.2 ec), ec]
    rfl
  | has v hp hc e =>
    rw [hp]
    show _ ∈ (if _ then _ else _ : List (Hd × Option Nat))
    rw [if_neg (by rw [cc]; exact hc)]
    refine List.mem_append_left _ (List.mem_map.mpr ⟨_, lC ((m.hd i).cell - 1), ?_⟩)
    have : m.pushing i = true := push_at hp hc
    unfold M.loc
    rw [this, e, co (fun z => by rw [hp] at z; cases z.1)]
    rfl
  | saw v s hs hp hc e =>
    rw [hp]
    show _ ∈ (if _ then _ else _ : List (Hd × Option Nat))
    rw [if_neg (by rw [cc]; exact hc)]
    refine List.mem_append_right _ (List.mem_append_left _ (List.mem_flatMap.mpr ⟨s, hs, List.mem_map.mpr ⟨_, lC ((m.hd i).cell - 1), ?_⟩⟩))
    have : m.pushing i = true := push_at hp hc
    unfold M.loc
    rw [this, e, co (fun z => by rw [hp] at z; cases z.1)]
    rfl
  | linked v s hs hp hc e =>
    rw [hp]
    show _ ∈ (if _ then _ else _ : List (Hd × Option Nat))
    rw [if_neg (by rw [cc]; exact hc)]
    refine List.mem_append_right _ (List.mem_append_right _ (List.mem_map.mpr ⟨s, hs, ?_⟩))
    have : m.pushing i = true := push_at hp hc
    have lk := (L.lnk i v s.1 hp (by rw [(bare_eq e).2.2.2.1])).2.1
    unfold M.loc
    rw [this, e, co (fun z => by rw [hp] at z; cases z.1), lk]
    rfl
  | popN k hk hp hn e =>
    have ec := (bare_eq e).2.1
    rw [hp]
    show _ ∈ (if _ then _ else _ : List (Hd × Option Nat))
    rw [if_neg (by rw [cc, ec]; exact fun z => z rfl), if_pos hn]
    refine List.mem_append_left _ (List.mem_map.mpr ⟨k, hk, ?_⟩)
    have : m.pushing i = false := push_no ec
    unfold M.loc
    rw [this, e, co (fun z => z.2 ec), ec]
    rfl
  | popS s hs k hk hp hn e =>
    have ec := (bare_eq e).2.1
    rw [hp]
    show _ ∈ (if _ then _ else _ : List (Hd × Option Nat))
    rw [if_neg (by rw [cc, ec]; exact fun z => z rfl), if_pos hn]
    refine List.mem_append_right _ (List.mem_append_left _ (List.mem_flatMap.mpr ⟨s, hs, List.mem_map.mpr ⟨k, hk, ?_⟩⟩))
    have : m.pushing i = false := push_no ec
    unfold M.loc
    rw [this, e, co (fun z => z.2 ec), ec]
    rfl
  | popL s hs g hg hp hn e =>
    have ec := (bare_eq e).2.1
    rw [hp]
    show _ ∈ (if _ then _ else _ : List (Hd × Option Nat))
    rw [if_neg (by rw [cc, ec]; exact fun z => z rfl), if_pos hn]
    refine List.mem_append_right _ (List.mem_append_right _ (List.mem_flatMap.mpr ⟨s, hs, List.mem_map.mpr ⟨g, fols_mem hg, ?_⟩⟩))
    have : m.pushing i = false := push_no ec
    unfold M.loc
    rw [this, e, co (fun z => z.2 ec), ec]
    rfl
  | popU hp hn e =>
    have ec := (bare_eq e).2.1
    rw [hp]
    show _ ∈ (if _ then _ else _ : List (Hd × Option Nat))
    rw [if_neg (by rw [cc, ec]; exact fun z => z rfl), if_neg (by rw [hn]; decide)]
    refine List.mem_cons.mpr (.inl ?_)
    have : m.pushing i = false := push_no ec
    unfold M.loc
    rw [this, e, co (fun z => z.2 ec), ec]
    rfl
  | popF s hs g hg hp hn e =>
    have ec := (bare_eq e).2.1
    rw [hp]
    show _ ∈ (if _ then _ else _ : List (Hd × Option Nat))
    rw [if_neg (by rw [cc, ec]; exact fun z => z rfl), if_neg (by rw [hn]; decide)]
    refine List.mem_cons_of_mem _ (List.mem_flatMap.mpr ⟨s, hs, List.mem_map.mpr ⟨g, fols_mem hg, ?_⟩⟩)
    have : m.pushing i = false := push_no ec
    unfold M.loc
    rw [this, e, co (fun z => z.2 ec), ec]
    rfl
  | done hp hc =>
    rw [hp]
    show _ ∈ (if _ then _ else _ : List (Hd × Option Nat))
    rw [if_pos (by rw [cc]; exact hc)]
    refine List.mem_singleton.mpr ?_
    have : m.pushing i = false := push_pop hp
    have e2 : core (m.prog i) (m.hd i) = (m.hd i).bare := if_pos ⟨hp, hc⟩
    unfold M.loc
    rw [this, e2]
    rfl
end
/-! ### all choices -/
def prods {α : Type} : List (List α) → List (List α)
  | [] => [[]]
  | l :: ls => l.flatMap fun a => (prods ls).map (a :: ·)
def prodN : List Nat → Nat
  | [] => 1
  | a :: l => a * prodN l
def sumN : List Nat → Nat
  | [] => 0
  | a :: l => a + sumN l
theorem len_flatMap {α β : Type} (f : α → List β) : ∀ l : List α, (l.flatMap f).length = sumN (l.map fun a => (f a).length)
  | [] => rfl
  | a :: l => by rw [List.flatMap_cons, List.length_append, len_flatMap f l]; rfl
theorem sumN_const {α : Type} (c : Nat) : ∀ l : List α, sumN (l.map fun _ => c) = l.length * c
  | [] => by simp [sumN]
  | a :: l => by
    show c + sumN (l.map fun _ => c) = (l.length + 1) * c
    rw [sumN_const c l, Nat.succ_mul, Nat.add_comm]
theorem len_prods {α : Type} : ∀ ls : List (List α), (prods ls).length = prodN (ls.map List.length)
  | [] => rfl
  | l :: ls => by
    show (l.flatMap fun a => (prods ls).map (a :: ·)).length = l.length * prodN (ls.map List.length)
    rw [len_flatMap, ← len_prods ls]
    have : (l.map fun a => ((prods ls).map (a :: ·)).length) = l.map fun _ => (prods ls).length := List.map_congr_left fun a _ => List.length_map ..
    rw [this, sumN_const]
theorem prods_mem {α β : Type} {f : β → α} {g : β → List α} : ∀ {l : List β}, (∀ b ∈ l, f b ∈ g b) → l.map f ∈ prods (l.map g)
  | [], _ => List.mem_singleton.mpr rfl
  | b :: l, h => List.mem_flatMap.mpr ⟨f b, h b List.mem_cons_self, List.mem_map.mpr ⟨_, prods_mem fun c hc => h c (List.mem_cons_of_mem _ hc), rfl⟩⟩
/-- a state, from its shared part and the hands' readings -/
def Sig.back (g : Sig) (ls : List (Hd × Option Nat)) : Key :=
  ((List.range g.links.length).map fun k => match ls.find? fun z => z.2.isSome && z.1.cell == k + 1 with
    | some z => z.2.getD 0
    | none => g.links.getD k 0, g.top, g.count, g.freed, ls.map fun z => z.1.key)
theorem key_back (m : M) (hist : List (Nat × Nat)) : (m.sig hist).back ((List.range m.hands.length).map m.loc) = m.key := by
  unfold Sig.back M.key
  have e1 : ((List.range m.hands.length).map m.loc).map (fun z => z.1.key) = m.hands.map Hd.key := by
    rw [List.map_map]
    apply List.ext_getElem?
    intro i
    rw [List.getElem?_map, List.getElem?_map]
    by_cases hi : i < m.hands.length
    · rw [List.getElem?_range hi, List.getElem?_eq_getElem hi]
      show some (m.hd i).bare.key = some (m.hands[i]).key
      unfold M.hd
      rw [List.getD_eq_getElem?_getD, List.getElem?_eq_getElem hi]
      rfl
    · rw [List.getElem?_eq_none (by rw [List.length_range]; omega), List.getElem?_eq_none (by omega)]
      rfl
  have e2 : ((List.range (m.sig hist).links.length).map fun k => match ((List.range m.hands.length).map m.loc).find? fun z => z.2.isSome && z.1.cell == k + 1 with
    | some z => z.2.getD 0
    | none => (m.sig hist).links.getD k 0) = m.links := by
    have hl : (m.sig hist).links.length = m.links.length := masked_len m
    refine list_ext (by rw [List.length_map, List.length_range, hl]) fun k hk => ?_
    rw [List.length_map, List.length_range, hl] at hk
    rw [List.getElem?_map, List.getElem?_range (by rw [hl]; exact hk), List.getElem?_eq_getElem hk, Option.map_some]
    congr 1
    have hg : m.links.getD k 0 = m.links[k] := by rw [List.getD_eq_getElem?_getD, List.getElem?_eq_getElem hk]; rfl
    cases q : ((List.range m.hands.length).map m.loc).find? fun z => z.2.isSome && z.1.cell == k + 1 with
    | some z =>
      have q1 := List.find?_some q
      have q2 := List.mem_of_find?_eq_some q
      obtain ⟨i, _, rfl⟩ := List.mem_map.mp q2
      rw [Bool.and_eq_true] at q1
      have q3 : (m.hd i).cell = k + 1 := by simpa [M.loc, Hd.bare] using q1.2
      show (m.loc i).2.getD 0 = _
      have q4 : (m.loc i).2.isSome = true := q1.1
      unfold M.loc at q4 ⊢
      dsimp only at q4 ⊢
      split at q4
      · rename_i hp
        rw [if_pos hp, q3]
        exact hg
      · cases q4
    | none =>
      show m.masked.getD k 0 = _
      rw [List.getD_eq_getElem?_getD, masked_get hk]
      show (if m.holds (k + 1) = true then 0 else m.links.getD k 0) = _
      have nh : ¬ m.holds (k + 1) = true := fun z => by
        unfold M.holds at z
        rw [List.any_eq_true] at z
        obtain ⟨i, hi, z⟩ := z
        rw [Bool.and_eq_true] at z
        have := List.find?_eq_none.mp q (m.loc i) (List.mem_map.mpr ⟨i, hi, rfl⟩)
        apply this
        rw [Bool.and_eq_true]
        refine ⟨?_, z.2⟩
        unfold M.loc
        rw [if_pos z.1]
        rfl
      rw [if_neg nh, hg]
  rw [e1, e2]
  rfl
end SS

set_option linter.all false
namespace SS
/-! ### all shared parts that may come -/
def Sig.tree (ps : List (List Deed)) (r : Rule) : Nat → Sig → List Sig
  | 0, g => [g]
  | n + 1, g => g :: (List.range ps.length).flatMap fun h => (g.nexts ps r h).flatMap (Sig.tree ps r n)
section
variable {ps : List (List Deed)} {r : Rule}
theorem tree_self : ∀ (n : Nat) (g : Sig), g ∈ g.tree ps r n
  | 0, g => List.mem_singleton.mpr rfl
  | n + 1, g => List.mem_cons_self
theorem tree_more : ∀ (n : Nat) {g g' : Sig}, g' ∈ g.tree ps r n → g' ∈ g.tree ps r (n + 1)
  | 0, g, g', h => by
    rw [List.mem_singleton.mp h]
    exact tree_self _ _
  | n + 1, g, g', h => by
    rcases List.mem_cons.mp h with z | z
    · rw [z]
      exact tree_self _ _
    · obtain ⟨i, hi, z⟩ := List.mem_flatMap.mp z
      obtain ⟨g1, h1, z⟩ := List.mem_flatMap.mp z
      exact List.mem_cons_of_mem _ (List.mem_flatMap.mpr ⟨i, hi, List.mem_flatMap.mpr ⟨g1, h1, tree_more n z⟩⟩)
theorem tree_next : ∀ (n : Nat) {g g' g2 : Sig} {h : Nat}, g' ∈ g.tree ps r n → h < ps.length → g2 ∈ g'.nexts ps r h → g2 ∈ g.tree ps r (n + 1)
  | 0, g, g', g2, h, h1, hl, h2 => by
    rw [List.mem_singleton.mp h1] at h2
    exact List.mem_cons_of_mem _ (List.mem_flatMap.mpr ⟨h, List.mem_range.mpr hl, List.mem_flatMap.mpr ⟨g2, h2, tree_self _ _⟩⟩)
  | n + 1, g, g', g2, h, h1, hl, h2 => by
    rcases List.mem_cons.mp h1 with z | z
    · rw [z] at h2
      exact List.mem_cons_of_mem _ (List.mem_flatMap.mpr ⟨h, List.mem_range.mpr hl, List.mem_flatMap.mpr ⟨g2, h2, tree_self _ _⟩⟩)
    · obtain ⟨i, hi, z⟩ := List.mem_flatMap.mp z
      obtain ⟨g1, h3, z⟩ := List.mem_flatMap.mp z
      exact List.mem_cons_of_mem _ (List.mem_flatMap.mpr ⟨i, hi, List.mem_flatMap.mpr ⟨g1, h3, tree_next n z hl h2⟩⟩)
theorem tree_le {n k : Nat} (h : n ≤ k) {g g' : Sig} (z : g' ∈ g.tree ps r n) : g' ∈ g.tree ps r k := by
  induction h with
  | refl => exact z
  | step _ ih => exact tree_more _ ih
end
theorem Fine.wl {ps : List (List Deed)} {r : Rule} {m : M} (f : Fine ps r m) : m.worths.length ≤ 6 + total ps := by
  have h1 := f.good.wl
  have h2 : sumTo (fun i => used (m.hd i)) m.hands.length ≤ sumTo (fun j => (ps.getD j []).length) m.hands.length := sumTo_le fun i hi => by
    have := (f.good.hand i hi).used_le
    unfold M.prog at this
    rw [f.progs] at this
    exact this
  rw [f.hn] at h2
  rw [total_eq]
  rw [f.hn] at h1
  omega
/-- what holds of every machine that is reached -/
structure Met (values : List Int) (ps : List (List Deed)) (r : Rule) (g0 : Sig) (n : Nat) (m : M) : Prop where
  fine : Fine ps r m
  lin : ∃ p, Lin values m p
  sig : ∃ hist, (∀ i, i < ps.length → Shape (6 + total ps) r i hist (m.prog i) (m.hd i)) ∧ (m.top, m.count) ∈ hist ∧ m.sig hist ∈ g0.tree ps r n
section
variable {values : List Int} {ps : List (List Deed)} {r : Rule} {g0 : Sig} {m : M}
theorem Met.step {n h : Nat} (M0 : Met values ps r g0 n m) (hl : h < ps.length) (e : (m.step h).strayed = false) : Met values ps r g0 (n + 1) (m.step h) := by
  obtain ⟨f, ⟨p, L⟩, hist, S, T, z⟩ := M0
  obtain ⟨hist', l, s1, s2, s3⟩ := (goes f L hl e (S h hl) T f.wl).ex
  refine ⟨f.step hl, L.step f hl e, hist', fun i hi => ?_, s2, ?_⟩
  · rw [step_prog]
    by_cases q : i = h
    · rw [q]
      exact s1
    · rw [(step_progs m h).2.2.2 i q]
      exact (S i hi).mono l
  · rcases s3 with q | q
    · rw [q]
      exact tree_more _ z
    · exact tree_next n z hl q
theorem Met.run {w : List Nat} : ∀ {n : Nat} {m : M}, Met values ps r g0 n m → (∀ h ∈ w, h < ps.length) → (m.run w).strayed = false → Met values ps r g0 (n + w.length) (m.run w) := by
  induction w with
  | nil => exact fun M0 _ _ => M0
  | cons h w ih =>
    intro n m M0 hw e
    have := ih (M0.step (hw h List.mem_cons_self) (run_stray (w := w) e)) (fun x hx => hw x (List.mem_cons_of_mem _ hx)) e
    rw [List.length_cons, show n + (w.length + 1) = n + 1 + w.length by omega]
    exact this
theorem Met.begin_ (ok : okIn values ps r) : Met values ps r ((M.begin_ values ps r).sig [(values.length, 0)]) 0 (M.begin_ values ps r) := by
  refine ⟨Fine.begin_ ok, ⟨_, Lin.begin_ values ps r⟩, _, fun i hi => ?_, List.mem_singleton.mpr rfl, tree_self _ _⟩
  rw [begin_hd]
  exact Shape.new rfl
end
/-! ### how many -/
def Sig.all (C : Nat) (ps : List (List Deed)) (r : Rule) (g : Sig) : List (List (Hd × Option Nat)) :=
  prods ((List.range ps.length).map fun i => optOf C r g.hist i (g.hs.getD i {}) ((ps.getD i [])[(g.hs.getD i {}).at_]?))
def keysIn (C : Nat) (ps : List (List Deed)) (r : Rule) (n : Nat) (g : Sig) : List Key := (g.tree ps r n).flatMap fun g => (g.all C ps r).map g.back
theorem Met.key {values : List Int} {ps : List (List Deed)} {r : Rule} {g0 : Sig} {n : Nat} {m : M} (M0 : Met values ps r g0 n m) : m.key ∈ keysIn (6 + total ps) ps r n g0 := by
  obtain ⟨f, ⟨p, L⟩, hist, S, T, z⟩ := M0
  refine List.mem_flatMap.mpr ⟨_, z, List.mem_map.mpr ⟨_, ?_, key_back m hist⟩⟩
  unfold Sig.all
  rw [f.hn]
  refine prods_mem fun i hi => ?_
  have hl := List.mem_range.mp hi
  have e1 : (m.sig hist).hs.getD i {} = core (m.prog i) (m.hd i) := cores_get (by rw [f.hn]; exact hl)
  have e2 : ps.getD i [] = m.prog i := by
    unfold M.prog
    rw [f.progs]
  rw [e1, core_at, e2]
  exact loc_mem f L (S i hl) f.wl
abbrev Ab := List Bool × Bool
def isPush : Deed → Bool
  | .push _ => true
  | .pop => false
def ab (p : List Deed) (x : Hd) : Ab := ((p.drop x.at_).map isPush, decide (x.cell ≠ 0))
def wgt (C e : Nat) : Ab → Nat
  | ([], _) => 1
  | (true :: _, true) => (C + 1) + (e * (C + 1) + e)
  | (true :: _, false) => 1
  | (false :: _, true) => 1
  | (false :: _, false) => (e + 1) + (e * (e + 1) + e * (C + 2))
def nextN (f : List Ab → Nat → Nat → Nat) (hs : List Ab) (e nf i : Nat) : Ab → Nat
  | ([], _) => 0
  | (true :: r, false) => f (hs.set i (true :: r, true)) e nf + match nf with
    | 0 => 0
    | k + 1 => (k + 1) * f (hs.set i (true :: r, true)) e k
  | (true :: r, true) => f (hs.set i (r, false)) (e + 1) nf
  | (false :: r, false) => max (f (hs.set i (false :: r, true)) (e + 1) nf) (f (hs.set i (r, false)) e nf)
  | (false :: r, true) => f (hs.set i (r, false)) e (nf + 1)
def cnt (C : Nat) : Nat → List Ab → Nat → Nat → Nat
  | 0, hs, e, _ => prodN (hs.map (wgt C e))
  | n + 1, hs, e, nf => prodN (hs.map (wgt C e)) + sumN ((List.range hs.length).map fun i => nextN (cnt C n) hs e nf i (hs.getD i ([], false)))
theorem sumN_le {α : Type} {f g : α → Nat} : ∀ {l : List α}, (∀ a ∈ l, f a ≤ g a) → sumN (l.map f) ≤ sumN (l.map g)
  | [], _ => Nat.le_refl _
  | a :: l, h => Nat.add_le_add (h a List.mem_cons_self) (sumN_le fun b hb => h b (List.mem_cons_of_mem _ hb))
theorem prodN_le {α : Type} {f g : α → Nat} : ∀ {l : List α}, (∀ a ∈ l, f a ≤ g a) → prodN (l.map f) ≤ prodN (l.map g)
  | [], _ => Nat.le_refl _
  | a :: l, h => Nat.mul_le_mul (h a List.mem_cons_self) (prodN_le fun b hb => h b (List.mem_cons_of_mem _ hb))
theorem sumN_app (a b : List Nat) : sumN (a ++ b) = sumN a + sumN b := by
  induction a with
  | nil => simp [sumN]
  | cons x a ih => simp [sumN, ih]; omega
theorem sumN_flat {α β : Type} (f : α → List β) (w : β → Nat) : ∀ l : List α, sumN ((l.flatMap f).map w) = sumN (l.map fun a => sumN ((f a).map w))
  | [] => rfl
  | a :: l => by rw [List.flatMap_cons, List.map_append, sumN_app, sumN_flat f w l]; rfl
theorem drop_at {p : List Deed} {i : Nat} {d : Deed} (h : p[i]? = some d) : p.drop i = d :: p.drop (i + 1) := by
  obtain ⟨hi, e⟩ := List.getElem?_eq_some_iff.mp h
  rw [List.drop_eq_getElem_cons hi, e]
theorem opt_len {C : Nat} {r : Rule} {hist : List (Nat × Nat)} {h : Nat} {p : List Deed} {x : Hd} : (optOf C r hist h x (p[x.at_]?)).length ≤ wgt C hist.length (ab p x) := by
  have lf : (fols C).length = C + 2 := by simp [fols]
  have fl : ∀ {α β : Type} (k : Nat) (l : List α) (g : α → List β), (∀ a ∈ l, (g a).length = k) → (l.flatMap g).length = l.length * k := fun k l g hk => by
    rw [len_flatMap, ← sumN_const k l]
    exact congrArg sumN (List.map_congr_left hk)
  unfold ab
  cases hp : p[x.at_]? with
  | none =>
    have : p.drop x.at_ = [] := List.drop_eq_nil_iff.mpr (List.getElem?_eq_none_iff.mp hp)
    rw [this]
    exact Nat.le_refl _
  | some d =>
    rw [drop_at hp]
    cases d with
    | push v =>
      by_cases c : x.cell = 0
      · have e1 : optOf C r hist h x (some (.push v)) = [(x, none)] := if_pos c
        have e2 : decide (x.cell ≠ 0) = false := decide_eq_false (fun z => z c)
        rw [e1, e2]
        exact Nat.le_refl _
      · have e2 : decide (x.cell ≠ 0) = true := decide_eq_true c
        unfold optOf
        rw [if_neg c, e2, List.length_append, List.length_append, List.length_map, List.length_range, List.length_map, fl (C + 1) hist _ (fun s _ => by rw [List.length_map, List.length_range])]
        exact Nat.le_refl _
    | pop =>
      by_cases c : x.cell = 0
      · have e2 : decide (x.cell ≠ 0) = false := decide_eq_false (fun z => z c)
        have cn : ¬ (x.cell ≠ 0) := fun z => z c
        rw [e2]
        show _ ≤ (hist.length + 1) + (hist.length * (hist.length + 1) + hist.length * (C + 2))
        cases hn : r.named h with
        | true =>
          have e1 : optOf C r hist h x (some .pop) = ((0 :: hist.map Prod.fst).map fun k => ({ x with mark := k }, none)) ++ ((hist.flatMap fun s => (0 :: hist.map Prod.fst).map fun k => ({ x with seen := some s, mark := k }, none)) ++
            hist.flatMap fun s => (fols C).map fun f => ({ x with seen := some s, mark := s.1, looked := true, follow := f }, none)) := (if_neg cn).trans (if_pos hn)
          rw [e1, List.length_append, List.length_append, List.length_map, List.length_cons, List.length_map, fl (hist.length + 1) hist _ (fun s _ => by rw [List.length_map, List.length_cons, List.length_map]), fl (C + 2) hist _ (fun s _ => by rw [List.length_map, lf])]
          exact Nat.le_refl _
        | false =>
          have e1 : optOf C r hist h x (some .pop) = (x, none) :: hist.flatMap fun s => (fols C).map fun f => ({ x with seen := some s, follow := f }, none) := (if_neg cn).trans (if_neg (by rw [hn]; decide))
          rw [e1, List.length_cons, fl (C + 2) hist _ (fun s _ => by rw [List.length_map, lf])]
          omega
      · have e1 : optOf C r hist h x (some .pop) = [(x, none)] := if_pos c
        have e2 : decide (x.cell ≠ 0) = true := decide_eq_true c
        rw [e1, e2]
        exact Nat.le_refl _
def Sig.abs (ps : List (List Deed)) (g : Sig) : List Ab := (List.range ps.length).map fun i => ab (ps.getD i []) (g.hs.getD i {})
theorem abs_get {ps : List (List Deed)} {g : Sig} {i : Nat} (h : i < ps.length) : (g.abs ps).getD i ([], false) = ab (ps.getD i []) (g.hs.getD i {}) := by
  unfold Sig.abs
  rw [List.getD_eq_getElem?_getD, List.getElem?_map, List.getElem?_range h]
  rfl
theorem abs_set {ps : List (List Deed)} {g : Sig} {h : Nat} {y : Hd} (hl : h < ps.length) (hs : g.hs.length = ps.length) {L : List Nat} {t c : Nat} {F : List Nat} {hi : List (Nat × Nat)} : Sig.abs ps ⟨L, t, c, F, g.hs.set h y, hi⟩ = (g.abs ps).set h (ab (ps.getD h []) y) := by
  apply List.ext_getElem?
  intro i
  unfold Sig.abs
  rw [List.getElem?_set, List.getElem?_map, List.getElem?_map, List.length_map, List.length_range]
  by_cases e : h = i
  · subst e
    rw [if_pos rfl, if_pos hl, List.getElem?_range hl, Option.map_some, List.getD_eq_getElem?_getD (l := g.hs.set h y), List.getElem?_set, if_pos rfl, if_pos (by rw [hs]; exact hl)]
    rfl
  · rw [if_neg e]
    by_cases hk : i < ps.length
    · rw [List.getElem?_range hk, Option.map_some, Option.map_some, List.getD_eq_getElem?_getD (l := g.hs.set h y), List.getElem?_set, if_neg e, ← List.getD_eq_getElem?_getD]
    · rw [List.getElem?_eq_none (by rw [List.length_range]; omega)]
      rfl
theorem tree_cnt {C : Nat} {ps : List (List Deed)} {r : Rule} : ∀ (n : Nat) (g : Sig), g.hs.length = ps.length → sumN ((g.tree ps r n).map fun g => (g.all C ps r).length) ≤ cnt C n (g.abs ps) g.hist.length g.freed.length := by
  have one : ∀ g : Sig, (g.all C ps r).length ≤ prodN ((g.abs ps).map (wgt C g.hist.length)) := fun g => by
    unfold Sig.all Sig.abs
    rw [len_prods, List.map_map, List.map_map]
    exact prodN_le fun i _ => opt_len
  intro n
  induction n with
  | zero =>
    intro g hs
    show (g.all C ps r).length + 0 ≤ _
    exact one g
  | succ n ih =>
    intro g hs
    have al : (g.abs ps).length = ps.length := by simp [Sig.abs]
    show (g.all C ps r).length + sumN (((List.range ps.length).flatMap fun h => (g.nexts ps r h).flatMap (Sig.tree ps r n)).map _) ≤ prodN _ + sumN ((List.range (g.abs ps).length).map _)
    refine Nat.add_le_add (one g) ?_
    rw [sumN_flat, al]
    refine sumN_le fun h hh => ?_
    have hl := List.mem_range.mp hh
    rw [sumN_flat, abs_get hl]
    unfold Sig.nexts
    generalize hx : g.hs.getD h {} = x
    have S : ∀ {y : Hd}, (g.hs.set h y).length = ps.length := fun {y} => by rw [List.length_set]; exact hs
    cases hp : (ps.getD h [])[x.at_]? with
    | none => exact Nat.zero_le _
    | some d =>
      have ea : ab (ps.getD h []) x = (isPush d :: ((ps.getD h []).drop (x.at_ + 1)).map isPush, decide (x.cell ≠ 0)) := by
        unfold ab
        rw [drop_at hp]
        rfl
      have eb : ∀ c, c ≠ 0 → ab (ps.getD h []) { at_ := x.at_, cell := c } = (isPush d :: ((ps.getD h []).drop (x.at_ + 1)).map isPush, true) := fun c hc => by
        unfold ab
        rw [drop_at hp, decide_eq_true hc]
        rfl
      have en : ab (ps.getD h []) { at_ := x.at_ + 1 } = (((ps.getD h []).drop (x.at_ + 1)).map isPush, false) := rfl
      rw [ea]
      generalize ((ps.getD h []).drop (x.at_ + 1)).map isPush = rest at eb en
      cases d with
      | push v =>
        by_cases c : x.cell = 0
        · have e2 : decide (x.cell ≠ 0) = false := decide_eq_false (fun z => z c)
          unfold Sig.nextOf
          rw [if_pos c, e2]
          show _ + sumN (List.map _ _) ≤ _ + _
          refine Nat.add_le_add ?_ ?_
          · have := ih ⟨g.links ++ [0], g.top, g.count, g.freed, g.hs.set h { at_ := x.at_, cell := g.links.length + 1 }, g.hist⟩ S
            rw [abs_set hl hs, eb _ (Nat.succ_ne_zero _)] at this
            exact this
          · rw [List.map_map]
            cases hf : g.freed with
            | nil => exact Nat.le_refl _
            | cons a F =>
              have q : ∀ c ∈ (a :: F).filter (fun c => decide (c ≠ 0)), ((fun a => sumN ((Sig.tree ps r n a).map fun g => (g.all C ps r).length)) ∘ fun c => (⟨g.links.set (c - 1) 0, g.top, g.count, (a :: F).erase c, g.hs.set h { at_ := x.at_, cell := c }, g.hist⟩ : Sig)) c ≤ cnt C n ((g.abs ps).set h (true :: rest, true)) g.hist.length F.length := fun c hc => by
                obtain ⟨c1, c2⟩ := List.mem_filter.mp hc
                have := ih ⟨g.links.set (c - 1) 0, g.top, g.count, (a :: F).erase c, g.hs.set h { at_ := x.at_, cell := c }, g.hist⟩ S
                rw [abs_set hl hs, eb c (of_decide_eq_true c2)] at this
                have el : ((a :: F).erase c).length = F.length := by rw [List.length_erase_of_mem c1]; rfl
                rw [show (Sig.mk (g.links.set (c - 1) 0) g.top g.count ((a :: F).erase c) (g.hs.set h { at_ := x.at_, cell := c }) g.hist).freed.length = F.length from el] at this
                exact this
              refine Nat.le_trans (sumN_le q) ?_
              rw [sumN_const]
              exact Nat.mul_le_mul (List.length_filter_le ..) (Nat.le_refl _)
        · have e2 : decide (x.cell ≠ 0) = true := decide_eq_true c
          unfold Sig.nextOf
          rw [if_neg c, e2]
          have := ih ⟨g.links.set (x.cell - 1) g.top, x.cell, turnedC r g.count, g.freed, g.hs.set h { at_ := x.at_ + 1 }, g.hist ++ [(x.cell, turnedC r g.count)]⟩ S
          rw [abs_set hl hs, en] at this
          dsimp only at this
          rw [List.length_append] at this
          exact this
      | pop =>
        by_cases c : x.cell = 0
        · have e2 : decide (x.cell ≠ 0) = false := decide_eq_false (fun z => z c)
          rw [e2]
          by_cases t : g.top = 0
          · rw [show g.nextOf r h x (some .pop) = [⟨g.links, g.top, g.count, g.freed, g.hs.set h { at_ := x.at_ + 1 }, g.hist⟩] from (if_pos c).trans (if_pos t)]
            have := ih ⟨g.links, g.top, g.count, g.freed, g.hs.set h { at_ := x.at_ + 1 }, g.hist⟩ S
            rw [abs_set hl hs, en] at this
            exact Nat.le_trans this (Nat.le_max_right _ _)
          · rw [show g.nextOf r h x (some .pop) = [⟨g.links, g.links.getD (g.top - 1) 0, turnedC r g.count, g.freed, g.hs.set h { at_ := x.at_, cell := g.top, seen := some (g.top, g.count), follow := some (g.links.getD (g.top - 1) 0), mark := if r.named h then g.top else 0, looked := r.named h }, g.hist ++ [(g.links.getD (g.top - 1) 0, turnedC r g.count)]⟩] from (if_pos c).trans (if_neg t)]
            have := ih ⟨g.links, g.links.getD (g.top - 1) 0, turnedC r g.count, g.freed, g.hs.set h { at_ := x.at_, cell := g.top, seen := some (g.top, g.count), follow := some (g.links.getD (g.top - 1) 0), mark := if r.named h then g.top else 0, looked := r.named h }, g.hist ++ [(g.links.getD (g.top - 1) 0, turnedC r g.count)]⟩ S
            rw [abs_set hl hs, show ab (ps.getD h []) { at_ := x.at_, cell := g.top, seen := some (g.top, g.count), follow := some (g.links.getD (g.top - 1) 0), mark := if r.named h then g.top else 0, looked := r.named h } = (isPush .pop :: rest, true) from eb g.top t] at this
            dsimp only at this
            rw [List.length_append] at this
            exact Nat.le_trans this (Nat.le_max_left _ _)
        · have e2 : decide (x.cell ≠ 0) = true := decide_eq_true c
          rw [e2, show g.nextOf r h x (some .pop) = [⟨g.links, g.top, g.count, g.freed ++ [x.cell], g.hs.set h { at_ := x.at_ + 1 }, g.hist⟩] from if_neg c]
          have := ih ⟨g.links, g.top, g.count, g.freed ++ [x.cell], g.hs.set h { at_ := x.at_ + 1 }, g.hist⟩ S
          rw [abs_set hl hs, en] at this
          dsimp only at this
          rw [List.length_append] at this
          exact this
theorem nodup_le {α : Type} [DecidableEq α] : ∀ {a b : List α}, a.Nodup → (∀ x ∈ a, x ∈ b) → a.length ≤ b.length
  | [], _, _, _ => Nat.zero_le _
  | x :: a, b, nd, h => by
    have hx := h x List.mem_cons_self
    have nd' := List.nodup_cons.mp nd
    have := nodup_le (a := a) (b := b.erase x) nd'.2 fun y hy => (List.mem_erase_of_ne (fun z : y = x => nd'.1 (by rw [← z]; exact hy))).mpr (h y (List.mem_cons_of_mem _ hy))
    rw [List.length_erase_of_mem hx] at this
    have : 0 < b.length := List.length_pos_of_mem hx
    show a.length + 1 ≤ _
    omega
/-- programs, as far as their states are counted -/
def kinds (ps : List (List Deed)) : List Ab := ps.map fun p => (p.map isPush, false)
/-- a machine that is reached by so many steps, none stale -/
def Reached (values : List Int) (ps : List (List Deed)) (r : Rule) (n : Nat) (k : Key) : Prop := ∃ w : List Nat, (∀ h ∈ w, h < ps.length) ∧ w.length ≤ n ∧ ((M.begin_ values ps r).run w).strayed = false ∧ k = ((M.begin_ values ps r).run w).key
theorem states_le {values : List Int} {ps : List (List Deed)} {r : Rule} (ok : okIn values ps r) {n B : Nat} (hB : cnt (6 + total ps) n (kinds ps) 1 0 ≤ B) {ks : List Key} (nd : ks.Nodup) (h : ∀ k ∈ ks, Reached values ps r n k) : ks.length ≤ B := by
  haveI : DecidableEq Key := fun a b => Classical.propDecidable (a = b)
  refine Nat.le_trans (nodup_le nd (b := keysIn (6 + total ps) ps r n ((M.begin_ values ps r).sig [(values.length, 0)])) fun k hk => ?_) ?_
  · obtain ⟨w, h1, h2, h3, rfl⟩ := h k hk
    have M1 := (Met.begin_ ok).run h1 h3
    rw [Nat.zero_add] at M1
    obtain ⟨f, l, hist, S, T, z⟩ := M1
    exact Met.key ⟨f, l, hist, S, T, tree_le h2 z⟩
  · unfold keysIn
    rw [len_flatMap]
    have e1 : (((M.begin_ values ps r).sig [(values.length, 0)]).tree ps r n).map (fun g => ((g.all (6 + total ps) ps r).map g.back).length) = (((M.begin_ values ps r).sig [(values.length, 0)]).tree ps r n).map fun g => (g.all (6 + total ps) ps r).length := List.map_congr_left fun g _ => List.length_map ..
    rw [e1]
    have hl : ((M.begin_ values ps r).sig [(values.length, 0)]).hs.length = ps.length := by
      show ((List.range (ps.map fun _ => ({} : Hd)).length).map _).length = _
      simp
    refine Nat.le_trans (tree_cnt n _ hl) ?_
    have e2 : ((M.begin_ values ps r).sig [(values.length, 0)]).abs ps = kinds ps := by
      apply List.ext_getElem?
      intro i
      unfold Sig.abs kinds
      rw [List.getElem?_map, List.getElem?_map]
      by_cases hi : i < ps.length
      · rw [List.getElem?_range hi, List.getElem?_eq_getElem hi, Option.map_some, Option.map_some]
        have e3 : ((M.begin_ values ps r).sig [(values.length, 0)]).hs.getD i {} = {} := by
          have q := cores_get (m := M.begin_ values ps r) (h := i) (by show i < (ps.map fun _ => ({} : Hd)).length; simpa using hi)
          refine q.trans ?_
          rw [begin_hd]
          unfold core
          split <;> rfl
        rw [e3, List.getD_eq_getElem?_getD, List.getElem?_eq_getElem hi]
        rfl
      · rw [List.getElem?_eq_none (by rw [List.length_range]; omega), List.getElem?_eq_none (by omega)]
        rfl
    rw [e2]
    exact hB
end SS

set_option linter.all false
/-! Machines alike but for values and what was told. -/
namespace SS
theorem move_eq {m : M} {h : Nat} {t : Tell} {m' : M} (z : Move m h t m') : m.step h = m' := by
  unfold M.step
  cases z with
  | rests hd =>
    unfold M.turn
    rw [hd]
  | takesF v c hd hc hp =>
    rw [turn_takes hd hc, taken_some hp]
  | takesN v hd hc hp =>
    rw [turn_takes hd hc, taken_none hp]
  | readsQ v hd hc hs => rw [turn_reads_push hd hc hs]
  | readsP hd hs ht => rw [turn_reads_pop hd hs ht]
  | empty hd hs ht =>
    rw [turn_empty hd hs ht]
    rfl
  | links v s hd hc hs hf => rw [turn_links hd hc hs hf]
  | pushed v f hd hc hs hf =>
    rw [turn_pushed hd hc hs hf]
    rfl
  | missQ v s f hd hc hs hf hn =>
    rw [turn_push hd hc hs]
    unfold M.push
    rw [hf, fits_of hs, decide_eq_false hn]
    rfl
  | popped s hd hs hc =>
    rw [turn_popped hd hs hc]
    rfl
  | marks s hd hs hc hn hl hm => rw [turn_marks hd hs hc hn hl hm]
  | looksF s hd hs hc hn hl hm ht =>
    rw [turn_pop hd hs]
    unfold M.pop M.guard
    rw [if_neg (fun z => z hc), if_pos ⟨hn, hl⟩, if_neg (fun z => z hm), if_pos ht]
  | looksT s hd hs hc hn hl hm ht => rw [turn_looks hd hs hc hn hl hm ht]
  | follows s hd hs hc hn hf => rw [turn_follows hd hs hc hn hf]
  | exchanges f hd hs hc hn hf => rw [turn_exchanges hd hs hc hn hf]
  | missP s f hd hs hc hn hf hx =>
    rw [turn_pop hd hs]
    unfold M.pop
    rw [if_neg (fun z => z hc), if_neg hn, hf, fits_of hs, decide_eq_false hx]
    rfl
structure Alike (m m' : M) : Prop where
  progs : m'.progs = m.progs
  rule : m'.rule = m.rule
  links : m'.links = m.links
  top : m'.top = m.top
  count : m'.count = m.count
  freed : m'.freed = m.freed
  wl : m'.worths.length = m.worths.length
  hands : m'.hands.map Hd.bare = m.hands.map Hd.bare
theorem bare_bare (x : Hd) : x.bare.bare = x.bare := rfl
section
variable {m m' : M} {h : Nat}
theorem Alike.hd (A : Alike m m') (i : Nat) : (m'.hd i).bare = (m.hd i).bare := by
  have e : (m'.hands.map Hd.bare)[i]? = (m.hands.map Hd.bare)[i]? := by rw [A.hands]
  rw [List.getElem?_map, List.getElem?_map] at e
  unfold M.hd
  rw [List.getD_eq_getElem?_getD, List.getD_eq_getElem?_getD]
  cases a : m'.hands[i]? with
  | none =>
    cases b : m.hands[i]? with
    | none => rfl
    | some y =>
      rw [a, b] at e
      cases e
  | some x =>
    cases b : m.hands[i]? with
    | none =>
      rw [a, b] at e
      cases e
    | some y =>
      rw [a, b] at e
      exact Option.some.inj e
theorem Alike.at_ (A : Alike m m') (i : Nat) : (m'.hd i).at_ = (m.hd i).at_ := (bare_eq (A.hd i)).1
theorem Alike.cell (A : Alike m m') (i : Nat) : (m'.hd i).cell = (m.hd i).cell := (bare_eq (A.hd i)).2.1
theorem Alike.seen (A : Alike m m') (i : Nat) : (m'.hd i).seen = (m.hd i).seen := (bare_eq (A.hd i)).2.2.1
theorem Alike.follow (A : Alike m m') (i : Nat) : (m'.hd i).follow = (m.hd i).follow := (bare_eq (A.hd i)).2.2.2.1
theorem Alike.mark (A : Alike m m') (i : Nat) : (m'.hd i).mark = (m.hd i).mark := (bare_eq (A.hd i)).2.2.2.2.1
theorem Alike.looked (A : Alike m m') (i : Nat) : (m'.hd i).looked = (m.hd i).looked := (bare_eq (A.hd i)).2.2.2.2.2
theorem Alike.prog (A : Alike m m') (i : Nat) : m'.prog i = m.prog i := by
  unfold M.prog
  rw [A.progs]
theorem Alike.hlen (A : Alike m m') : m'.hands.length = m.hands.length := by
  have := congrArg List.length A.hands
  rwa [List.length_map, List.length_map] at this
theorem Alike.marked (A : Alike m m') : m'.marked = m.marked := by
  have e : ∀ l : List Hd, l.map (·.mark) = (l.map Hd.bare).map (·.mark) := fun l => by rw [List.map_map]; rfl
  unfold M.marked
  rw [e m'.hands, e m.hands, A.hands]
theorem Alike.rests (A : Alike m m') (i : Nat) : m'.rests i = m.rests i := by
  unfold M.rests
  rw [A.at_, A.prog]
theorem Alike.symm (A : Alike m m') : Alike m' m := ⟨A.progs.symm, A.rule.symm, A.links.symm, A.top.symm, A.count.symm, A.freed.symm, A.wl.symm, A.hands.symm⟩
theorem Alike.set {m1 m1' : M} {x x' : Hd} (A : Alike m m') (e1 : m1'.progs = m1.progs) (e2 : m1'.rule = m1.rule) (e3 : m1'.links = m1.links) (e4 : m1'.top = m1.top) (e5 : m1'.count = m1.count) (e6 : m1'.freed = m1.freed) (e7 : m1'.worths.length = m1.worths.length)
    (h1 : m1.hands = m.hands) (h2 : m1'.hands = m'.hands) (hx : x'.bare = x.bare) : Alike (m1.setH h x) (m1'.setH h x') := by
  refine ⟨e1, e2, e3, e4, e5, e6, e7, ?_⟩
  show (m1'.hands.set h x').map Hd.bare = (m1.hands.set h x).map Hd.bare
  rw [List.map_set, List.map_set, h1, h2, A.hands, hx]
/-- they go on alike -/
theorem Alike.step (A : Alike m m') : Alike (m.step h) (m'.step h) ∧ ∃ b, (m.step h).strayed = (m.strayed || b) ∧ (m'.step h).strayed = (m'.strayed || b) := by
  have P := A.prog h
  have ea := A.at_ h
  have ec := A.cell h
  have es := A.seen h
  have ef := A.follow h
  have em := A.mark h
  have ek := A.looked h
  have eb := A.hd h
  have er := A.rule
  have ep : pick m'.rule m'.marked m'.freed = pick m.rule m.marked m.freed := by rw [A.rule, A.marked, A.freed]
  have ln : m'.rule.named h = m.rule.named h := by rw [A.rule]
  have q0 : ∀ b : Bool, b = (b || false) := fun b => by cases b <;> rfl
  have mv := move m h
  generalize (m.turn h).1 = t at mv
  generalize hm' : m.step h = m2 at mv ⊢
  cases mv with
  | rests hd =>
    rw [move_eq (.rests (m := m') (by rw [P, ea]; exact hd))]
    exact ⟨A, false, q0 _, q0 _⟩
  | takesF v c hd hc hp =>
    rw [move_eq (.takesF (m := m') v c (by rw [P, ea]; exact hd) (by rw [ec]; exact hc) (by rw [ep]; exact hp))]
    exact ⟨A.set A.progs A.rule A.links A.top A.count (by show m'.freed.erase c = m.freed.erase c; rw [A.freed]) (by show (m'.worths.set _ _).length = (m.worths.set _ _).length; rw [List.length_set, List.length_set, A.wl]) rfl rfl (bare_of ea rfl es ef em ek rfl), false, q0 _, q0 _⟩
  | takesN v hd hc hp =>
    rw [move_eq (.takesN (m := m') v (by rw [P, ea]; exact hd) (by rw [ec]; exact hc) (by rw [ep]; exact hp))]
    exact ⟨A.set A.progs A.rule (by show m'.links ++ [0] = m.links ++ [0]; rw [A.links]) A.top A.count A.freed (by show (m'.worths ++ _).length = (m.worths ++ _).length; rw [List.length_append, List.length_append, A.wl]) rfl rfl (bare_of ea (by show m'.worths.length + 1 = m.worths.length + 1; rw [A.wl]) es ef em ek rfl), false, q0 _, q0 _⟩
  | readsQ v hd hc hs =>
    rw [move_eq (.readsQ (m := m') v (by rw [P, ea]; exact hd) (by rw [ec]; exact hc) (by rw [es]; exact hs))]
    exact ⟨A.set A.progs A.rule A.links A.top A.count A.freed A.wl rfl rfl (bare_of ea ec (by show some (m'.top, m'.count) = some (m.top, m.count); rw [A.top, A.count]) ef em ek rfl), false, q0 _, q0 _⟩
  | readsP hd hs ht =>
    rw [move_eq (.readsP (m := m') (by rw [P, ea]; exact hd) (by rw [es]; exact hs) (by rw [A.top]; exact ht))]
    exact ⟨A.set A.progs A.rule A.links A.top A.count A.freed A.wl rfl rfl (bare_of ea ec (by show some (m'.top, m'.count) = some (m.top, m.count); rw [A.top, A.count]) ef em ek rfl), false, q0 _, q0 _⟩
  | empty hd hs ht =>
    rw [move_eq (.empty (m := m') (by rw [P, ea]; exact hd) (by rw [es]; exact hs) (by rw [A.top]; exact ht))]
    exact ⟨A.set A.progs A.rule A.links A.top A.count A.freed A.wl rfl rfl (bare_of (by show (m'.hd h).at_ + 1 = (m.hd h).at_ + 1; rw [ea]) rfl rfl rfl rfl rfl rfl), false, q0 _, q0 _⟩
  | links v s hd hc hs hf =>
    rw [move_eq (.links (m := m') v s (by rw [P, ea]; exact hd) (by rw [ec]; exact hc) (by rw [es]; exact hs) (by rw [ef]; exact hf))]
    exact ⟨A.set A.progs A.rule (by show m'.links.set _ _ = m.links.set _ _; rw [A.links, ec]) A.top A.count A.freed A.wl rfl rfl (bare_of ea ec es rfl em ek rfl), false, q0 _, q0 _⟩
  | pushed v f hd hc hs hf =>
    rw [move_eq (.pushed (m := m') v f (by rw [P, ea]; exact hd) (by rw [ec]; exact hc) (by rw [es, A.top, A.count]; exact hs) (by rw [ef]; exact hf))]
    exact ⟨A.set A.progs A.rule A.links ec (by show m'.turned = m.turned; unfold M.turned; rw [A.rule, A.count]) A.freed A.wl rfl rfl (bare_of (by show (m'.hd h).at_ + 1 = (m.hd h).at_ + 1; rw [ea]) rfl rfl rfl rfl rfl rfl), false, q0 _, q0 _⟩
  | missQ v s f hd hc hs hf hn =>
    rw [move_eq (.missQ (m := m') v s f (by rw [P, ea]; exact hd) (by rw [ec]; exact hc) (by rw [es]; exact hs) (by rw [ef]; exact hf) (by rw [A.top, A.count]; exact hn))]
    exact ⟨A.set A.progs A.rule A.links A.top A.count A.freed A.wl rfl rfl (bare_of ea ec rfl rfl em rfl rfl), false, q0 _, q0 _⟩
  | popped s hd hs hc =>
    rw [move_eq (.popped (m := m') s (by rw [P, ea]; exact hd) (by rw [es]; exact hs) (by rw [ec]; exact hc))]
    exact ⟨A.set A.progs A.rule A.links A.top A.count (by show m'.freed ++ _ = m.freed ++ _; rw [A.freed, ec]) A.wl rfl rfl (bare_of (by show (m'.hd h).at_ + 1 = (m.hd h).at_ + 1; rw [ea]) rfl rfl rfl rfl rfl rfl), false, q0 _, q0 _⟩
  | marks s hd hs hc hn hl hm =>
    rw [move_eq (.marks (m := m') s (by rw [P, ea]; exact hd) (by rw [es]; exact hs) (by rw [ec]; exact hc) (by rw [ln]; exact hn) (by rw [ek]; exact hl) (by rw [em]; exact hm))]
    exact ⟨A.set A.progs A.rule A.links A.top A.count A.freed A.wl rfl rfl (bare_of ea ec es ef rfl ek rfl), false, q0 _, q0 _⟩
  | looksF s hd hs hc hn hl hm ht =>
    rw [move_eq (.looksF (m := m') s (by rw [P, ea]; exact hd) (by rw [es]; exact hs) (by rw [ec]; exact hc) (by rw [ln]; exact hn) (by rw [ek]; exact hl) (by rw [em]; exact hm) (by rw [A.top]; exact ht))]
    exact ⟨A.set A.progs A.rule A.links A.top A.count A.freed A.wl rfl rfl (bare_of ea ec rfl rfl em rfl rfl), false, q0 _, q0 _⟩
  | looksT s hd hs hc hn hl hm ht =>
    rw [move_eq (.looksT (m := m') s (by rw [P, ea]; exact hd) (by rw [es]; exact hs) (by rw [ec]; exact hc) (by rw [ln]; exact hn) (by rw [ek]; exact hl) (by rw [em]; exact hm) (by rw [A.top]; exact ht))]
    exact ⟨A.set A.progs A.rule A.links A.top A.count A.freed A.wl rfl rfl (bare_of ea ec es ef em rfl rfl), false, q0 _, q0 _⟩
  | follows s hd hs hc hn hf =>
    rw [move_eq (.follows (m := m') s (by rw [P, ea]; exact hd) (by rw [es]; exact hs) (by rw [ec]; exact hc) (by rw [ln, ek]; exact hn) (by rw [ef]; exact hf))]
    exact ⟨A.set A.progs A.rule A.links A.top A.count A.freed A.wl rfl rfl (bare_of ea ec es (by show some (m'.links.getD _ 0) = some (m.links.getD _ 0); rw [A.links]) em ek rfl), false, q0 _, q0 _⟩
  | exchanges f hd hs hc hn hf =>
    rw [move_eq (.exchanges (m := m') f (by rw [P, ea]; exact hd) (by rw [es, A.top, A.count]; exact hs) (by rw [ec]; exact hc) (by rw [ln, ek]; exact hn) (by rw [ef]; exact hf))]
    exact ⟨A.set A.progs A.rule A.links rfl (by show m'.turned = m.turned; unfold M.turned; rw [A.rule, A.count]) A.freed A.wl rfl rfl (bare_of ea A.top es ef em ek rfl), _, rfl, by show (m'.strayed || m'.links.getD (m'.top - 1) 0 != f) = _; rw [A.links, A.top]⟩
  | missP s f hd hs hc hn hf hx =>
    rw [move_eq (.missP (m := m') s f (by rw [P, ea]; exact hd) (by rw [es]; exact hs) (by rw [ec]; exact hc) (by rw [ln, ek]; exact hn) (by rw [ef]; exact hf) (by rw [A.top, A.count]; exact hx))]
    exact ⟨A.set A.progs A.rule A.links A.top A.count A.freed A.wl rfl rfl (bare_of ea ec rfl rfl em rfl rfl), false, q0 _, q0 _⟩
theorem Alike.of_key {ps : List (List Deed)} {r : Rule} (f : Fine ps r m) (f' : Fine ps r m') (e : m'.key = m.key) : Alike m m' := by
  unfold M.key at e
  injection e with e1 e
  injection e with e2 e
  injection e with e3 e
  injection e with e4 e5
  refine ⟨by rw [f.progs, f'.progs], by rw [f.rule, f'.rule], e1, e2, e3, e4, by rw [← f.good.ll, ← f'.good.ll, e1], ?_⟩
  have un : ∀ x : Hd, x.bare = (fun k : HKey => ({ at_ := k.1, cell := k.2.1, seen := k.2.2.1, follow := k.2.2.2.1, mark := k.2.2.2.2.1, looked := k.2.2.2.2.2 } : Hd)) x.key := fun x => rfl
  have g : ∀ l : List Hd, l.map Hd.bare = (l.map Hd.key).map (fun k : HKey => ({ at_ := k.1, cell := k.2.1, seen := k.2.2.1, follow := k.2.2.2.1, mark := k.2.2.2.2.1, looked := k.2.2.2.2.2 } : Hd)) := fun l => by rw [List.map_map]; rfl
  rw [g, g, e5]
theorem Alike.key (A : Alike m m') : m'.key = m.key := by
  have g : ∀ l : List Hd, l.map Hd.key = (l.map Hd.bare).map Hd.key := fun l => by rw [List.map_map]; rfl
  unfold M.key
  rw [A.links, A.top, A.count, A.freed, g m'.hands, g m.hands, A.hands]
end
end SS

set_option linter.all false
/-! The search, level by level: the shortest stale weaving, of several the least. -/
namespace SS
open Classical
/-! ### orders -/
def lexLt : List Nat → List Nat → Prop
  | a :: u, b :: v => a < b ∨ (a = b ∧ lexLt u v)
  | _, _ => False
theorem lexLt_irrefl : ∀ u, ¬ lexLt u u
  | [], h => h
  | a :: u, h => by
    rcases h with z | ⟨_, z⟩
    · omega
    · exact lexLt_irrefl u z
theorem lexLt_trans : ∀ {u v w}, lexLt u v → lexLt v w → lexLt u w
  | a :: u, b :: v, c :: w, h1, h2 => by
    rcases h1 with z1 | ⟨e1, z1⟩ <;> rcases h2 with z2 | ⟨e2, z2⟩
    · exact .inl (by omega)
    · exact .inl (by omega)
    · exact .inl (by omega)
    · exact .inr ⟨by omega, lexLt_trans z1 z2⟩
  | [], _, _, h1, _ => h1.elim
  | _ :: _, [], _, h1, _ => h1.elim
  | _ :: _, _ :: _, [], _, h2 => h2.elim
theorem lex_tri : ∀ {u v}, u.length = v.length → lexLt u v ∨ u = v ∨ lexLt v u
  | [], [], _ => .inr (.inl rfl)
  | [], _ :: _, h => by cases h
  | _ :: _, [], h => by cases h
  | a :: u, b :: v, h => by
    rcases Nat.lt_trichotomy a b with z | z | z
    · exact .inl (.inl z)
    · subst z
      rcases lex_tri (Nat.succ.inj h) with q | q | q
      · exact .inl (.inr ⟨rfl, q⟩)
      · exact .inr (.inl (by rw [q]))
      · exact .inr (.inr (.inr ⟨rfl, q⟩))
    · exact .inr (.inr (.inl z))
theorem lex_snoc : ∀ {u v : List Nat} (a b : Nat), lexLt u v → lexLt (u ++ [a]) (v ++ [b])
  | x :: u, y :: v, a, b, h => by
    rcases h with z | ⟨e, z⟩
    · exact .inl z
    · exact .inr ⟨e, lex_snoc a b z⟩
  | [], _, _, _, h => h.elim
  | _ :: _, [], _, _, h => h.elim
theorem lex_last : ∀ (u : List Nat) {a b : Nat}, a < b → lexLt (u ++ [a]) (u ++ [b])
  | [], _, _, h => .inl h
  | x :: u, _, _, h => .inr ⟨rfl, lex_last u h⟩
/-- shorter, or as long and not behind -/
def sle (u v : List Nat) : Prop := u.length < v.length ∨ (u.length = v.length ∧ (u = v ∨ lexLt u v))
theorem sle_refl (u : List Nat) : sle u u := .inr ⟨rfl, .inl rfl⟩
theorem sle_trans {u v w : List Nat} (h1 : sle u v) (h2 : sle v w) : sle u w := by
  rcases h1 with z1 | ⟨e1, z1⟩ <;> rcases h2 with z2 | ⟨e2, z2⟩
  · exact .inl (by omega)
  · exact .inl (by omega)
  · exact .inl (by omega)
  · refine .inr ⟨by omega, ?_⟩
    rcases z1 with rfl | z1
    · exact z2
    · rcases z2 with rfl | z2
      · exact .inr z1
      · exact .inr (lexLt_trans z1 z2)
theorem sle_snoc {u v : List Nat} (a : Nat) (h : sle u v) : sle (u ++ [a]) (v ++ [a]) := by
  rcases h with z | ⟨e, z⟩
  · exact .inl (by rw [List.length_append, List.length_append]; show _ + 1 < _ + 1; omega)
  · refine .inr ⟨by rw [List.length_append, List.length_append, e], ?_⟩
    rcases z with rfl | z
    · exact .inl rfl
    · exact .inr (lex_snoc a a z)
/-! ### weavings without rests, none stale -/
def live (n : Nat) : M → List Nat → Prop
  | _, [] => True
  | b, h :: w => h < n ∧ b.rests h = false ∧ (b.step h).strayed = false ∧ live n (b.step h) w
theorem live_snoc {n h : Nat} : ∀ {w : List Nat} {b : M}, live n b (w ++ [h]) ↔ live n b w ∧ h < n ∧ (b.run w).rests h = false ∧ ((b.run w).step h).strayed = false
  | [], b => ⟨fun ⟨a, c, d, _⟩ => ⟨trivial, a, c, d⟩, fun ⟨_, a, c, d⟩ => ⟨a, c, d, trivial⟩⟩
  | x :: w, b => ⟨fun ⟨a, c, d, e⟩ => by
      obtain ⟨e1, e2⟩ := live_snoc.mp e
      exact ⟨⟨a, c, d, e1⟩, e2⟩, fun ⟨⟨a, c, d, e⟩, e2⟩ => ⟨a, c, d, live_snoc.mpr ⟨e, e2⟩⟩⟩
theorem live_in {n : Nat} : ∀ {w : List Nat} {b : M}, live n b w → ∀ h ∈ w, h < n
  | [], _, _, h, hh => by cases hh
  | x :: w, b, ⟨a, _, _, e⟩, h, hh => by
    rcases List.mem_cons.mp hh with z | z
    · rw [z]
      exact a
    · exact live_in e h z
theorem live_stray {n : Nat} : ∀ {w : List Nat} {b : M}, live n b w → b.strayed = false → (b.run w).strayed = false
  | [], _, _, h => h
  | h :: w, b, ⟨_, _, c, e⟩, _ => by
    have := live_stray (w := w) (b := b.step h) e c
    exact this
theorem live_mu {ps : List (List Deed)} {r : Rule} : ∀ {w : List Nat} {b : M}, live ps.length b w → Fine ps r b → (b.run w).mu + w.length ≤ b.mu
  | [], _, _, _ => Nat.le_refl _
  | h :: w, b, ⟨a, c, _, e⟩, f => by
    have h1 := live_mu e (f.step a)
    have h2 := f.good.mu_lt (h := h) (by rw [f.hn]; exact a) (by rw [f.hn]; exact f.plen) c
    show ((b.step h).run w).mu + (w.length + 1) ≤ _
    omega
/-- a weaving whose last step, and none ahead, is stale, and none rests -/
def Stale (n : Nat) (b : M) (w : List Nat) : Prop := ∃ u h, w = u ++ [h] ∧ live n b u ∧ h < n ∧ (b.run u).rests h = false ∧ ((b.run u).step h).strayed = true
/-! ### the search -/
def cands (n : Nat) (b : M) (level : List (List Nat)) : List (List Nat) := level.flatMap fun u => ((List.range n).filter fun h => !(b.run u).rests h).map fun h => u ++ [h]
noncomputable def scan (b : M) : List Key → List (List Nat) → List (List Nat) → Option (List Nat) × List Key × List (List Nat)
  | met, behind, [] => (none, met, behind)
  | met, behind, c :: cs =>
    if (b.run c).strayed = true then (some c, met, behind)
    else if (b.run c).key ∈ met then scan b met behind cs
    else scan b (met ++ [(b.run c).key]) (behind ++ [c]) cs
noncomputable def bfs (n : Nat) (b : M) : Nat → List Key → List (List Nat) → Option (List Nat)
  | 0, _, _ => none
  | k + 1, met, level => if level = [] then none else
    match scan b met [] (cands n b level) with
    | (some c, _, _) => some c
    | (none, met', behind) => bfs n b k met' behind
theorem cands_mem {n : Nat} {b : M} {level : List (List Nat)} {c : List Nat} : c ∈ cands n b level ↔ ∃ u h, c = u ++ [h] ∧ u ∈ level ∧ h < n ∧ (b.run u).rests h = false := by
  unfold cands
  rw [List.mem_flatMap]
  constructor
  · rintro ⟨u, hu, hc⟩
    obtain ⟨h, hh, rfl⟩ := List.mem_map.mp hc
    obtain ⟨h1, h2⟩ := List.mem_filter.mp hh
    refine ⟨u, h, rfl, hu, List.mem_range.mp h1, ?_⟩
    cases e : (b.run u).rests h with
    | false => rfl
    | true =>
      rw [e] at h2
      cases h2
  · rintro ⟨u, h, rfl, hu, hn, hr⟩
    exact ⟨u, hu, List.mem_map.mpr ⟨h, List.mem_filter.mpr ⟨List.mem_range.mpr hn, by rw [hr]; rfl⟩, rfl⟩⟩
theorem range_lt : ∀ n : Nat, (List.range n).Pairwise (· < ·)
  | 0 => .nil
  | n + 1 => by
    rw [List.range_succ, List.pairwise_append]
    exact ⟨range_lt n, .cons (fun _ z => by cases z) .nil, fun a ha b hb => by
      rw [List.mem_singleton.mp hb]
      exact List.mem_range.mp ha⟩
theorem cands_sorted {n : Nat} {b : M} {L : Nat} : ∀ {level : List (List Nat)}, level.Pairwise lexLt → (cands n b level).Pairwise lexLt
  | [], _ => .nil
  | u :: level, h => by
    have h' := List.pairwise_cons.mp h
    show (_ ++ cands n b level).Pairwise lexLt
    rw [List.pairwise_append]
    refine ⟨?_, cands_sorted (L := L) h'.2, fun x hx y hy => ?_⟩
    · rw [List.pairwise_map]
      exact (List.Pairwise.filter _ (range_lt n)).imp fun z => lex_last u z
    · obtain ⟨a, _, rfl⟩ := List.mem_map.mp hx
      obtain ⟨v, c, rfl, hv, _⟩ := cands_mem.mp hy
      exact lex_snoc a c (h'.1 v hv)
section
variable {n : Nat} {b : M}
/-- what stands at a level's start -/
structure Lev (n : Nat) (b : M) (old level : List (List Nat)) (met : List Key) (L : Nat) : Prop where
  ol : ∀ u ∈ old, live n b u ∧ u.length < L
  ll : ∀ u ∈ level, live n b u ∧ u.length = L
  srt : level.Pairwise lexLt
  reps : ∀ w, live n b w → w.length ≤ L → ∃ v, v ∈ old ++ level ∧ (b.run v).key = (b.run w).key ∧ sle v w
  none : ∀ u ∈ old, ∀ h, h < n → (b.run u).rests h = false → ((b.run u).step h).strayed = false
  keys : ∀ k ∈ met, ∃ v, v ∈ old ++ level ∧ (b.run v).key = k
/-- what stands within a level -/
structure Sc (n : Nat) (b : M) (old level : List (List Nat)) (done behind : List (List Nat)) (met : List Key) : Prop where
  bl : ∀ c ∈ behind, c ∈ done ∧ (b.run c).strayed = false
  bs : behind.Pairwise lexLt
  dn : ∀ c ∈ done, (b.run c).strayed = false ∧ ∃ v, v ∈ old ++ level ++ behind ∧ (b.run v).key = (b.run c).key ∧ sle v c
  keys : ∀ k ∈ met, ∃ v, v ∈ old ++ level ++ behind ∧ (b.run v).key = k
theorem scan_spec {old level : List (List Nat)} {L : Nat} (hol : ∀ u ∈ old ++ level, u.length ≤ L) (hcl : ∀ c ∈ cands n b level, c.length = L + 1) (hs : (cands n b level).Pairwise lexLt) : ∀ {rest done behind : List (List Nat)} {met : List Key}, cands n b level = done ++ rest → Sc n b old level done behind met →
    ((∃ c x y, scan b met behind rest = (some c, x, y) ∧ c ∈ cands n b level ∧ (b.run c).strayed = true ∧ ∀ c' ∈ cands n b level, lexLt c' c → (b.run c').strayed = false) ∨
      ∃ met' behind', scan b met behind rest = (none, met', behind') ∧ Sc n b old level (cands n b level) behind' met')
  | [], done, behind, met, e, S => .inr ⟨met, behind, rfl, by
      rw [List.append_nil] at e
      rw [e]
      exact S⟩
  | c :: rest, done, behind, met, e, S => by
    have e2 : cands n b level = (done ++ [c]) ++ rest := by rw [e, List.append_assoc]; rfl
    have hs2 := hs
    rw [e, List.pairwise_append] at hs2
    have before : ∀ d ∈ done, lexLt d c := fun d hd => hs2.2.2 d hd c List.mem_cons_self
    have cm : c ∈ cands n b level := by
      rw [e]
      exact List.mem_append_right _ List.mem_cons_self
    unfold scan
    by_cases st : (b.run c).strayed = true
    · rw [if_pos st]
      refine .inl ⟨c, met, behind, rfl, cm, st, fun c' hc' hlt => ?_⟩
      rw [e] at hc'
      rcases List.mem_append.mp hc' with z | z
      · exact (S.dn c' z).1
      · rcases List.mem_cons.mp z with q | q
        · rw [q] at hlt
          exact absurd hlt (lexLt_irrefl c)
        · have := (List.pairwise_cons.mp hs2.2.1).1 c' q
          exact absurd (lexLt_trans hlt this) (lexLt_irrefl _)
    · rw [if_neg st]
      have st' : (b.run c).strayed = false := by
        cases q : (b.run c).strayed with
        | false => rfl
        | true => exact absurd q st
      by_cases km : (b.run c).key ∈ met
      · rw [if_pos km]
        refine scan_spec hol hcl hs e2 ⟨fun x hx => ⟨List.mem_append_left _ (S.bl x hx).1, (S.bl x hx).2⟩, S.bs, fun x hx => ?_, S.keys⟩
        rcases List.mem_append.mp hx with z | z
        · exact S.dn x z
        · rw [List.mem_singleton.mp z]
          obtain ⟨v, hv, ek⟩ := S.keys _ km
          refine ⟨st', v, hv, ek, ?_⟩
          rcases List.mem_append.mp hv with q | q
          · exact .inl (by have := hol v q; have := hcl c cm; omega)
          · have h1 := before v (S.bl v q).1
            have h2 : v.length = L + 1 := hcl v (by rw [e]; exact List.mem_append_left _ (S.bl v q).1)
            exact .inr ⟨by rw [h2, hcl c cm], .inr h1⟩
      · rw [if_neg km]
        have sub : ∀ v, v ∈ old ++ level ++ behind → v ∈ old ++ level ++ (behind ++ [c]) := fun v hv => by
          rw [← List.append_assoc]
          exact List.mem_append_left _ hv
        have self : c ∈ old ++ level ++ (behind ++ [c]) := List.mem_append_right _ (List.mem_append_right _ (List.mem_singleton.mpr rfl))
        refine scan_spec hol hcl hs e2 ⟨fun x hx => ?_, ?_, fun x hx => ?_, fun k hk => ?_⟩
        · rcases List.mem_append.mp hx with z | z
          · exact ⟨List.mem_append_left _ (S.bl x z).1, (S.bl x z).2⟩
          · rw [List.mem_singleton.mp z]
            exact ⟨List.mem_append_right _ (List.mem_singleton.mpr rfl), st'⟩
        · rw [List.pairwise_append]
          refine ⟨S.bs, .cons (fun _ z => by cases z) .nil, fun x hx y hy => ?_⟩
          rw [List.mem_singleton.mp hy]
          exact before x (S.bl x hx).1
        · rcases List.mem_append.mp hx with z | z
          · obtain ⟨h1, v, h2, h3⟩ := S.dn x z
            exact ⟨h1, v, sub v h2, h3⟩
          · rw [List.mem_singleton.mp z]
            exact ⟨st', c, self, rfl, sle_refl c⟩
        · rcases List.mem_append.mp hk with z | z
          · obtain ⟨v, h2, h3⟩ := S.keys k z
            exact ⟨v, sub v h2, h3⟩
          · rw [List.mem_singleton.mp z]
            exact ⟨c, self, rfl⟩
end
section
variable {ps : List (List Deed)} {r : Rule} {b : M}
/-- what is alike goes on alike -/
theorem go_alike (f : Fine ps r b) (s0 : b.strayed = false) {u v : List Nat} (hu : live ps.length b u) (hv : live ps.length b v) (e : (b.run v).key = (b.run u).key) (h : Nat) :
    (b.run v).rests h = (b.run u).rests h ∧ ((b.run v).step h).strayed = ((b.run u).step h).strayed ∧ (b.run (v ++ [h])).key = (b.run (u ++ [h])).key := by
  have A := Alike.of_key (f.run (live_in hu)) (f.run (live_in hv)) e
  obtain ⟨A2, x, h1, h2⟩ := A.step (h := h)
  refine ⟨A.rests h, ?_, ?_⟩
  · rw [h1, h2, live_stray hu s0, live_stray hv s0]
  · rw [run_snoc, run_snoc]
    exact A2.key
/-- the search's end -/
def Found (n : Nat) (b : M) : Option (List Nat) → Prop
  | some w => Stale n b w ∧ ∀ w', Stale n b w' → sle w w'
  | none => ∀ w, ¬ Stale n b w
theorem bfs_spec (f : Fine ps r b) (s0 : b.strayed = false) : ∀ {k : Nat} {old level : List (List Nat)} {met : List Key} {L : Nat}, Lev ps.length b old level met L → 1000 < k + L → Found ps.length b (bfs ps.length b k met level) := by
  have bmu := f.mu_le
  have fin : ∀ {old : List (List Nat)} {met : List Key} {L : Nat}, Lev ps.length b old [] met L → Found ps.length b none := by
    intro old met L V w ⟨u, h, e, hu, hl, hr, hs⟩
    have all : ∀ (k : Nat) (w : List Nat), w.length = k → live ps.length b w → ∃ v, v ∈ old ∧ (b.run v).key = (b.run w).key := by
      intro k
      induction k with
      | zero =>
        intro w hw lw
        obtain ⟨v, hv, ek, _⟩ := V.reps w lw (by omega)
        rw [List.append_nil] at hv
        exact ⟨v, hv, ek⟩
      | succ k ih =>
        intro w hw lw
        have hne : w ≠ [] := fun z => by
          rw [z] at hw
          cases hw
        obtain ⟨u, h, rfl⟩ : ∃ u h, w = u ++ [h] := ⟨w.dropLast, w.getLast hne, (List.dropLast_concat_getLast hne).symm⟩
        rw [List.length_append] at hw
        obtain ⟨lu, l1, l2, l3⟩ := live_snoc.mp lw
        obtain ⟨v, hv, ek⟩ := ih u (by have : [h].length = 1 := rfl; omega) lu
        obtain ⟨lv, vl⟩ := V.ol v hv
        obtain ⟨g1, g2, g3⟩ := go_alike f s0 lu lv ek h
        obtain ⟨v2, hv2, ek2, _⟩ := V.reps (v ++ [h]) (live_snoc.mpr ⟨lv, l1, by rw [g1]; exact l2, by rw [g2]; exact l3⟩) (by rw [List.length_append]; exact vl)
        rw [List.append_nil] at hv2
        exact ⟨v2, hv2, by rw [ek2, g3]⟩
    obtain ⟨v, hv, ek⟩ := all u.length u rfl hu
    obtain ⟨lv, _⟩ := V.ol v hv
    obtain ⟨g1, g2, g3⟩ := go_alike f s0 hu lv ek h
    have := V.none v hv h hl (by rw [g1]; exact hr)
    rw [g2, hs] at this
    cases this
  intro k
  induction k with
  | zero =>
    intro old level met L V hk
    cases level with
    | nil => exact fin V
    | cons u level =>
      obtain ⟨lu, ul⟩ := V.ll u List.mem_cons_self
      have := live_mu lu f
      omega
  | succ k ih =>
    intro old level met L V hk
    unfold bfs
    by_cases hL : level = []
    · rw [if_pos hL]
      rw [hL] at V
      exact fin V
    · rw [if_neg hL]
      have hol : ∀ u ∈ old ++ level, u.length ≤ L := fun u hu => by
        rcases List.mem_append.mp hu with z | z
        · have := (V.ol u z).2
          omega
        · have := (V.ll u z).2
          omega
      have hcl : ∀ c ∈ cands ps.length b level, c.length = L + 1 := fun c hc => by
        obtain ⟨u, h, rfl, hu, _⟩ := cands_mem.mp hc
        rw [List.length_append, (V.ll u hu).2]
        rfl
      have S0 : Sc ps.length b old level [] [] met := ⟨fun _ z => (by cases z), .nil, fun _ z => (by cases z), fun k hk => by
        rw [List.append_nil]
        exact V.keys k hk⟩
      rcases scan_spec hol hcl (cands_sorted (L := L) V.srt) (rest := cands ps.length b level) (done := []) rfl S0 with ⟨c, x, y, e, cm, st, first⟩ | ⟨met', behind, e, S⟩
      · rw [e]
        obtain ⟨u, h, rfl, hu, hl, hr⟩ := cands_mem.mp cm
        obtain ⟨lu, ul⟩ := V.ll u hu
        rw [run_snoc] at st
        refine ⟨⟨u, h, rfl, lu, hl, hr, st⟩, ?_⟩
        rintro w' ⟨u', h', rfl, lu', hl', hr', hs'⟩
        rcases Nat.lt_trichotomy u'.length L with z | z | z
        · obtain ⟨v, hv, ek, sv⟩ := V.reps u' lu' (by omega)
          rcases List.mem_append.mp hv with q | q
          · obtain ⟨lv, _⟩ := V.ol v q
            obtain ⟨g1, g2, _⟩ := go_alike f s0 lu' lv ek h'
            have := V.none v q h' hl' (by rw [g1]; exact hr')
            rw [g2, hs'] at this
            cases this
          · have vl := (V.ll v q).2
            rcases sv with q2 | ⟨q2, _⟩ <;> omega
        · obtain ⟨v, hv, ek, sv⟩ := V.reps u' lu' (by omega)
          rcases List.mem_append.mp hv with q | q
          · obtain ⟨lv, _⟩ := V.ol v q
            obtain ⟨g1, g2, _⟩ := go_alike f s0 lu' lv ek h'
            have := V.none v q h' hl' (by rw [g1]; exact hr')
            rw [g2, hs'] at this
            cases this
          · obtain ⟨lv, vl⟩ := V.ll v q
            obtain ⟨g1, g2, _⟩ := go_alike f s0 lu' lv ek h'
            have cv : v ++ [h'] ∈ cands ps.length b level := cands_mem.mpr ⟨v, h', rfl, q, hl', by rw [g1]; exact hr'⟩
            have nlt : ¬ lexLt (v ++ [h']) (u ++ [h]) := fun z => by
              have := first _ cv z
              rw [run_snoc, g2, hs'] at this
              cases this
            refine sle_trans (v := v ++ [h']) ?_ (sle_snoc h' sv)
            refine .inr ⟨by rw [List.length_append, List.length_append, ul, vl]; rfl, ?_⟩
            rcases lex_tri (u := u ++ [h]) (v := v ++ [h']) (by rw [List.length_append, List.length_append, ul, vl]; rfl) with q1 | q1 | q1
            · exact .inr q1
            · exact .inl q1
            · exact absurd q1 nlt
        · refine .inl ?_
          rw [List.length_append, List.length_append, ul]
          exact Nat.add_lt_add_right z 1
      · rw [e]
        have V' : Lev ps.length b (old ++ level) behind met' (L + 1) := by
          refine ⟨fun u hu => ?_, fun c hc => ?_, S.bs, fun w lw hw => ?_, fun u hu h hl hr => ?_, S.keys⟩
          · rcases List.mem_append.mp hu with z | z
            · exact ⟨(V.ol u z).1, by have := (V.ol u z).2; omega⟩
            · exact ⟨(V.ll u z).1, by have := (V.ll u z).2; omega⟩
          · obtain ⟨h1, h2⟩ := S.bl c hc
            refine ⟨?_, hcl c h1⟩
            obtain ⟨u, h, rfl, hu, hl, hr⟩ := cands_mem.mp h1
            rw [run_snoc] at h2
            exact live_snoc.mpr ⟨(V.ll u hu).1, hl, hr, h2⟩
          · by_cases hw2 : w.length ≤ L
            · obtain ⟨v, hv, ek, sv⟩ := V.reps w lw hw2
              exact ⟨v, List.mem_append_left _ hv, ek, sv⟩
            · have hne : w ≠ [] := fun z => by
                rw [z] at hw2
                exact hw2 (Nat.zero_le _)
              obtain ⟨u, h, rfl⟩ : ∃ u h, w = u ++ [h] := ⟨w.dropLast, w.getLast hne, (List.dropLast_concat_getLast hne).symm⟩
              rw [List.length_append] at hw hw2
              have hul : u.length = L := by
                have : [h].length = 1 := rfl
                omega
              obtain ⟨lu, l1, l2, l3⟩ := live_snoc.mp lw
              obtain ⟨v, hv, ek, sv⟩ := V.reps u lu (by omega)
              rcases List.mem_append.mp hv with q | q
              · obtain ⟨lv, vl⟩ := V.ol v q
                obtain ⟨g1, g2, g3⟩ := go_alike f s0 lu lv ek h
                obtain ⟨v2, hv2, ek2, sv2⟩ := V.reps (v ++ [h]) (live_snoc.mpr ⟨lv, l1, by rw [g1]; exact l2, by rw [g2]; exact l3⟩) (by rw [List.length_append]; exact vl)
                exact ⟨v2, List.mem_append_left _ hv2, by rw [ek2, g3], sle_trans sv2 (sle_snoc h sv)⟩
              · obtain ⟨lv, vl⟩ := V.ll v q
                obtain ⟨g1, g2, g3⟩ := go_alike f s0 lu lv ek h
                obtain ⟨_, v2, hv2, ek2, sv2⟩ := S.dn (v ++ [h]) (cands_mem.mpr ⟨v, h, rfl, q, l1, by rw [g1]; exact l2⟩)
                exact ⟨v2, hv2, by rw [ek2, g3], sle_trans sv2 (sle_snoc h sv)⟩
          · rcases List.mem_append.mp hu with z | z
            · exact V.none u z h hl hr
            · have := (S.dn (u ++ [h]) (cands_mem.mpr ⟨u, h, rfl, z, hl, hr⟩)).1
              rw [run_snoc] at this
              exact this
        exact ih V' (by omega)
/-- at first -/
theorem lev0 (met : List Key) (h : ∀ k ∈ met, k = b.key) : Lev ps.length b [] [[]] met 0 := by
  refine ⟨fun _ z => (by cases z), fun u hu => ?_, .cons (fun _ z => by cases z) .nil, fun w lw hw => ?_, fun _ z => (by cases z), fun k hk => ⟨[], List.mem_singleton.mpr rfl, (h k hk).symm⟩⟩
  · rw [List.mem_singleton.mp hu]
    exact ⟨trivial, rfl⟩
  · have : w = [] := List.length_eq_zero_iff.mp (by omega)
    rw [this]
    exact ⟨[], List.mem_singleton.mpr rfl, rfl, sle_refl _⟩
theorem found_uniq {n : Nat} {x y : Option (List Nat)} (hx : Found n b x) (hy : Found n b y) : x = y := by
  cases x with
  | none =>
    cases y with
    | none => rfl
    | some w => exact absurd hy.1 (hx w)
  | some w =>
    cases y with
    | none => exact absurd hx.1 (hy w)
    | some w' =>
      have h1 := hx.2 w' hy.1
      have h2 := hy.2 w hx.1
      rcases h1 with z1 | ⟨e1, z1⟩
      · rcases h2 with z2 | ⟨e2, _⟩ <;> omega
      · rcases z1 with rfl | z1
        · rfl
        · rcases h2 with z2 | ⟨e2, z2⟩
          · omega
          · rcases z2 with rfl | z2
            · rfl
            · exact absurd (lexLt_trans z1 z2) (lexLt_irrefl _)
end
end SS

set_option linter.all false
namespace SS
theorem Stale.cons {n h : Nat} {b : M} {w : List Nat} (hl : h < n) (hr : b.rests h = false) (hs : (b.step h).strayed = false) (z : Stale n (b.step h) w) : Stale n b (h :: w) := by
  obtain ⟨u, i, rfl, lu, hi, ri, si⟩ := z
  exact ⟨h :: u, i, rfl, ⟨hl, hr, hs, lu⟩, hi, ri, si⟩
/-- where some run strays, there is a stale weaving -/
theorem stray_stale {n : Nat} : ∀ {w : List Nat} {b : M}, b.strayed = false → (∀ h ∈ w, h < n) → (b.run w).strayed = true → ∃ w', Stale n b w'
  | [], b, s0, _, h => by
    rw [show b.run [] = b from rfl, s0] at h
    cases h
  | i :: w, b, s0, hw, h => by
    cases hr : b.rests i with
    | true =>
      have e : b.step i = b := by
        unfold M.step
        rw [step_rests hr]
      have h2 : (b.run w).strayed = true := by
        have h3 : ((b.step i).run w).strayed = true := h
        rwa [e] at h3
      exact stray_stale s0 (fun x hx => hw x (List.mem_cons_of_mem _ hx)) h2
    | false =>
      have hi := hw i List.mem_cons_self
      cases hs : (b.step i).strayed with
      | true => exact ⟨[i], [], i, rfl, trivial, hi, hr, hs⟩
      | false =>
        obtain ⟨w', z⟩ := stray_stale (w := w) hs (fun x hx => hw x (List.mem_cons_of_mem _ hx)) h
        exact ⟨_, z.cons hi hr hs⟩
theorem Stale.strayed {n : Nat} {b : M} {w : List Nat} (z : Stale n b w) : (b.run w).strayed = true := by
  obtain ⟨u, i, rfl, lu, hi, ri, si⟩ := z
  rw [run_snoc]
  exact si
theorem Stale.range {n : Nat} {b : M} {w : List Nat} (z : Stale n b w) : ∀ h ∈ w, h < n := by
  obtain ⟨u, i, rfl, lu, hi, ri, si⟩ := z
  intro h hh
  rcases List.mem_append.mp hh with q | q
  · exact live_in lu h q
  · rw [List.mem_singleton.mp q]
    exact hi
theorem Stale.len {ps : List (List Deed)} {r : Rule} {b : M} {w : List Nat} (f : Fine ps r b) (z : Stale ps.length b w) : w.length ≤ 1000 := by
  obtain ⟨u, i, rfl, lu, hi, ri, si⟩ := z
  have h1 := live_mu lu f
  have h2 := f.mu_le
  rw [List.length_append]
  show u.length + 1 ≤ 1000
  omega
/-- the step that strays is an exchange -/
theorem stray_tells {m : M} {h : Nat} (s0 : m.strayed = false) (s1 : (m.step h).strayed = true) : ∃ k, (m.turn h).1 = .exchanges k := by
  have mv := move m h
  generalize ht : (m.turn h).1 = t at mv ⊢
  generalize hm' : m.step h = m' at mv s1
  cases mv with
  | exchanges f hd hs hc hn hf => exact ⟨f, rfl⟩
  | _ => exact absurd (s0.symm.trans s1) (by decide)
theorem stray_stays {m : M} {h : Nat} (s : m.strayed = true) : (m.step h).strayed = true := by
  cases e : (m.step h).strayed with
  | true => rfl
  | false =>
    have := stray_mono e
    rw [s] at this
    cases this
theorem stray_run {m : M} : ∀ {w : List Nat}, m.strayed = true → (m.run w).strayed = true := by
  intro w
  induction w generalizing m with
  | nil => exact id
  | cons h w ih => exact fun s => ih (stray_stays s)
theorem good_none {values : List Int} {ps : List (List Deed)} {r : Rule} (ok : okIn values ps r) (g : goodRule ps r) (w : List Nat) : ¬ Stale ps.length (M.begin_ values ps r) w := fun z => by
  have h1 := never ok g z.range
  rw [z.strayed] at h1
  cases h1
theorem found_none {values : List Int} {ps : List (List Deed)} {r : Rule} {x : Option (List Nat)} (ok : okIn values ps r) (g : goodRule ps r) (F : Found ps.length (M.begin_ values ps r) x) : x = none := by
  cases x with
  | none => rfl
  | some w => exact absurd F.1 (good_none ok g w)
theorem none_never {n : Nat} {b : M} (s0 : b.strayed = false) (F : Found n b none) {w : List Nat} (hw : ∀ h ∈ w, h < n) : (b.run w).strayed = false := by
  cases e : (b.run w).strayed with
  | false => rfl
  | true =>
    obtain ⟨w', z⟩ := stray_stale s0 hw e
    exact absurd z (F w')
end SS

set_option linter.all false
/-! Programs with fewer deeds. -/
namespace SS
theorem move_turn {m : M} {h : Nat} {t : Tell} {m' : M} (z : Move m h t m') : m.turn h = (t, m') := by
  cases z with
  | rests hd =>
    unfold M.turn
    rw [hd]
  | takesF v c hd hc hp => rw [turn_takes hd hc, taken_some hp]
  | takesN v hd hc hp => rw [turn_takes hd hc, taken_none hp]
  | readsQ v hd hc hs => rw [turn_reads_push hd hc hs]
  | readsP hd hs ht => rw [turn_reads_pop hd hs ht]
  | empty hd hs ht =>
    rw [turn_empty hd hs ht]
    rfl
  | links v s hd hc hs hf => rw [turn_links hd hc hs hf]
  | pushed v f hd hc hs hf =>
    rw [turn_pushed hd hc hs hf]
    rfl
  | missQ v s f hd hc hs hf hn =>
    rw [turn_push hd hc hs]
    unfold M.push
    rw [hf, fits_of hs, decide_eq_false hn]
    rfl
  | popped s hd hs hc =>
    rw [turn_popped hd hs hc]
    rfl
  | marks s hd hs hc hn hl hm => rw [turn_marks hd hs hc hn hl hm]
  | looksF s hd hs hc hn hl hm ht =>
    rw [turn_pop hd hs]
    unfold M.pop M.guard
    rw [if_neg (fun z => z hc), if_pos ⟨hn, hl⟩, if_neg (fun z => z hm), if_pos ht]
  | looksT s hd hs hc hn hl hm ht => rw [turn_looks hd hs hc hn hl hm ht]
  | follows s hd hs hc hn hf => rw [turn_follows hd hs hc hn hf]
  | exchanges f hd hs hc hn hf => rw [turn_exchanges hd hs hc hn hf]
  | missP s f hd hs hc hn hf hx =>
    rw [turn_pop hd hs]
    unfold M.pop
    rw [if_neg (fun z => z hc), if_neg hn, hf, fits_of hs, decide_eq_false hx]
    rfl
/-- m, with other programs -/
def M.re (m : M) (P : List (List Deed)) : M := { m with progs := P }
/-- the same deed is the next one -/
theorem re_move {m m' : M} {P : List (List Deed)} {h : Nat} {t : Tell} (e : (P.getD h [])[(m.hd h).at_]? = (m.prog h)[(m.hd h).at_]?) (z : Move m h t m') : Move (m.re P) h t (m'.re P) := by
  cases z with
  | rests hd => exact .rests (m := m.re P) (e.trans hd)
  | takesF v c hd hc hp => exact .takesF (m := m.re P) v c (e.trans hd) hc hp
  | takesN v hd hc hp => exact .takesN (m := m.re P) v (e.trans hd) hc hp
  | readsQ v hd hc hs => exact .readsQ (m := m.re P) v (e.trans hd) hc hs
  | readsP hd hs ht => exact .readsP (m := m.re P) (e.trans hd) hs ht
  | empty hd hs ht => exact .empty (m := m.re P) (e.trans hd) hs ht
  | links v s hd hc hs hf => exact .links (m := m.re P) v s (e.trans hd) hc hs hf
  | pushed v f hd hc hs hf => exact .pushed (m := m.re P) v f (e.trans hd) hc hs hf
  | missQ v s f hd hc hs hf hn => exact .missQ (m := m.re P) v s f (e.trans hd) hc hs hf hn
  | popped s hd hs hc => exact .popped (m := m.re P) s (e.trans hd) hs hc
  | marks s hd hs hc hn hl hm => exact .marks (m := m.re P) s (e.trans hd) hs hc hn hl hm
  | looksF s hd hs hc hn hl hm ht => exact .looksF (m := m.re P) s (e.trans hd) hs hc hn hl hm ht
  | looksT s hd hs hc hn hl hm ht => exact .looksT (m := m.re P) s (e.trans hd) hs hc hn hl hm ht
  | follows s hd hs hc hn hf => exact .follows (m := m.re P) s (e.trans hd) hs hc hn hf
  | exchanges f hd hs hc hn hf => exact .exchanges (m := m.re P) f (e.trans hd) hs hc hn hf
  | missP s f hd hs hc hn hf hx => exact .missP (m := m.re P) s f (e.trans hd) hs hc hn hf hx
/-- P's rows begin as m's do -/
def Longer (m : M) (P : List (List Deed)) : Prop := ∀ h i, i < (m.prog h).length → (P.getD h [])[i]? = (m.prog h)[i]?
theorem longer_step {m : M} {P : List (List Deed)} {h : Nat} (L : Longer m P) : Longer (m.step h) P := fun j i hi => by
  rw [step_prog] at hi ⊢
  exact L j i hi
theorem re_turn {m : M} {P : List (List Deed)} {h : Nat} (L : Longer m P) (ha : (m.hd h).at_ ≤ (m.prog h).length) (hr : m.rests h = false) : (m.re P).turn h = ((m.turn h).1, (m.step h).re P) ∧ (m.re P).rests h = false := by
  have hlt : (m.hd h).at_ < (m.prog h).length := by
    unfold M.rests at hr
    have h2 : (m.hd h).at_ ≠ (m.prog h).length := by simpa using hr
    omega
  have e := L h _ hlt
  refine ⟨move_turn (re_move e (move m h)), ?_⟩
  unfold M.rests
  have h3 : (m.hd h).at_ < (P.getD h []).length := by
    rw [List.getElem?_eq_getElem hlt] at e
    exact (List.getElem?_eq_some_iff.mp e).1
  show ((m.hd h).at_ == (P.getD h []).length) = false
  exact beq_eq_false_iff_ne.mpr (by omega)
theorem re_live {ps : List (List Deed)} {r : Rule} {n : Nat} {P : List (List Deed)} (hn : n = ps.length) : ∀ {w : List Nat} {m : M}, Fine ps r m → Longer m P → live n m w → live n (m.re P) w ∧ (m.re P).run w = (m.run w).re P ∧ (m.re P).tells w = m.tells w
  | [], _, _, _, _ => ⟨trivial, rfl, rfl⟩
  | h :: w, m, f, L, ⟨a, b, c, d⟩ => by
    obtain ⟨e1, e2⟩ := re_turn L (f.hand h).at_ b
    obtain ⟨i1, i2, i3⟩ := re_live hn (f.step (by rw [← hn]; exact a)) (longer_step L) d
    have e3 : (m.re P).step h = (m.step h).re P := congrArg Prod.snd e1
    have e4 : ((m.re P).turn h).1 = (m.turn h).1 := by rw [e1]
    refine ⟨⟨a, e2, by rw [e3]; exact c, by rw [e3]; exact i1⟩, ?_, ?_⟩
    · show ((m.re P).step h).run w = _
      rw [e3, i2]
      rfl
    · show ((m.re P).turn h).1 :: ((m.re P).step h).tells w = _
      rw [e3, e4, i3]
      rfl
theorem re_stale {ps : List (List Deed)} {r : Rule} {P : List (List Deed)} {w : List Nat} {m : M} (f : Fine ps r m) (L : Longer m P) (z : Stale ps.length m w) : Stale ps.length (m.re P) w ∧ (m.re P).tells w = m.tells w := by
  obtain ⟨u, h, rfl, lu, hl, hr, hs⟩ := z
  obtain ⟨i1, i2, i3⟩ := re_live rfl f L lu
  have fu := f.run (live_in lu)
  have Lu : Longer (m.run u) P := by
    intro j i hi
    have e : (m.run u).prog j = m.prog j := by
      unfold M.prog
      rw [fu.progs, f.progs]
    rw [e] at hi ⊢
    exact L j i hi
  obtain ⟨e1, e2⟩ := re_turn Lu (fu.hand h).at_ hr
  have e3 : ((m.run u).re P).step h = ((m.run u).step h).re P := congrArg Prod.snd e1
  refine ⟨⟨u, h, rfl, i1, hl, by rw [i2]; exact e2, by rw [i2, e3]; exact hs⟩, ?_⟩
  rw [tells_snoc, tells_snoc, i2, i3, e1]
/-- as long as nothing rests the same is told -/
theorem re_tells {ps : List (List Deed)} {r : Rule} {P : List (List Deed)} : ∀ {w : List Nat} {m : M} (k : Nat) {t : Tell}, Fine ps r m → (∀ h ∈ w, h < ps.length) → Longer m P → (∀ x ∈ (m.tells w).take (k + 1), x ≠ .rests) → (m.tells w)[k]? = some t → ((m.re P).tells w)[k]? = some t
  | [], _, _, _, _, _, _, _, h => by cases h
  | h :: w, m, k, t, f, hw, L, nr, e => by
    have hl := hw h List.mem_cons_self
    have hr : m.rests h = false := by
      cases q : m.rests h with
      | false => rfl
      | true =>
        have := nr (m.turn h).1 (by show _ ∈ ((m.turn h).1 :: (m.step h).tells w).take (k + 1); exact List.mem_cons_self)
        rw [step_rests q] at this
        exact absurd rfl this
    obtain ⟨e1, e2⟩ := re_turn L (f.hand h).at_ hr
    have e3 : (m.re P).step h = (m.step h).re P := congrArg Prod.snd e1
    have e4 : ((m.re P).turn h).1 = (m.turn h).1 := by rw [e1]
    show (((m.re P).turn h).1 :: ((m.re P).step h).tells w)[k]? = _
    rw [e3, e4]
    cases k with
    | zero => exact e
    | succ k => exact re_tells k (f.step hl) (fun x hx => hw x (List.mem_cons_of_mem _ hx)) (longer_step L) (fun x hx => nr x (by show _ ∈ ((m.turn h).1 :: (m.step h).tells w).take (k + 1 + 1); exact List.mem_cons_of_mem _ hx)) e
/-- a hand alone is never stale -/
theorem alone_never {values : List Int} {ps : List (List Deed)} {r : Rule} {h : Nat} (ok : okIn values ps r) (hl : h < ps.length) (ho : ∀ j, j ≠ h → ps.getD j [] = []) {w : List Nat} (hw : ∀ x ∈ w, x < ps.length) : ((M.begin_ values ps r).run w).strayed = false := by
  obtain ⟨m, A⟩ := alone_at ok hl rfl _ (Nat.le_refl _)
  rw [run_only ho (Fine.begin_ ok) hw]
  have hm : m.strayed = false := A.calm.calm
  cases e : ((M.begin_ values ps r).run (List.replicate (w.count h) h)).strayed with
  | false => rfl
  | true =>
    have h1 : ((M.begin_ values ps r).run (List.replicate (w.count h) h ++ List.replicate (alAt values r h (ps.getD h []) (ps.getD h []).length).told.length h)).strayed = true := by
      rw [run_append]
      exact stray_run e
    rw [List.replicate_append_replicate, Nat.add_comm, ← List.replicate_append_replicate, run_append, A.runs] at h1
    have hr : m.rests h = true := by
      unfold M.rests
      have e2 : m.prog h = ps.getD h [] := by
        rw [← A.runs]
        unfold M.prog
        rw [((Fine.begin_ ok).run (w := List.replicate (alAt values r h (ps.getD h []) (ps.getD h []).length).told.length h) fun x hx => by rw [List.eq_of_mem_replicate hx]; exact hl).progs]
      rw [A.at_, e2]
      simp
    rw [(rest_run hr _).1, hm] at h1
    cases h1
end SS

set_option linter.all false
/-! A stale weaving has more than four steps. -/
namespace SS
def one {α : Type} (o : Option α) : Nat := if o.isSome then 1 else 0
def phi (p : List Deed) (x : Hd) : Nat :=
  match p[x.at_]? with
  | some (.push _) => (if x.cell = 0 then 0 else 1) + one x.seen + one x.follow
  | some .pop => one x.seen + one x.follow
  | none => 0
def psi (p : List Deed) (x : Hd) : Nat :=
  match p[x.at_]? with
  | some .pop => 1 + (one x.seen + one x.follow)
  | _ => 0
theorem one_le {α : Type} (o : Option α) : one o ≤ 1 := by unfold one; split <;> omega
theorem phi_push {p : List Deed} {x : Hd} {v : Int} (h : p[x.at_]? = some (.push v)) : phi p x = (if x.cell = 0 then 0 else 1) + one x.seen + one x.follow := by unfold phi; rw [h]
theorem phi_pop {p : List Deed} {x : Hd} (h : p[x.at_]? = some .pop) : phi p x = one x.seen + one x.follow := by unfold phi; rw [h]
theorem psi_push {p : List Deed} {x : Hd} {v : Int} (h : p[x.at_]? = some (.push v)) : psi p x = 0 := by unfold psi; rw [h]
theorem psi_pop {p : List Deed} {x : Hd} (h : p[x.at_]? = some .pop) : psi p x = 1 + (one x.seen + one x.follow) := by unfold psi; rw [h]
theorem phi_new {p : List Deed} {x : Hd} {a : Ans} : phi p (x.ended a) = 0 := by
  unfold phi
  split <;> rfl
theorem psi_new {p : List Deed} {x : Hd} {a : Ans} : psi p (x.ended a) ≤ 1 := by
  unfold psi
  split <;> first | exact Nat.le_refl _ | exact Nat.zero_le _
/-- nothing has been linked yet -/
structure Unl (n0 : Nat) (m : M) : Prop where
  ll : n0 ≤ m.links.length
  ln : ∀ k, k < n0 → m.links.getD k 0 = k
  top : m.top ≤ n0
  hd : ∀ i, (∀ v, (m.prog i)[(m.hd i).at_]? = some (.push v) → (m.hd i).follow = none) ∧
    ((m.prog i)[(m.hd i).at_]? = some .pop → (m.hd i).cell = 0 → (∀ s, (m.hd i).seen = some s → 1 ≤ s.1 ∧ s.1 ≤ n0) ∧ ∀ f, (m.hd i).follow = some f → ∃ c, (m.hd i).seen = some (f + 1, c))
structure Cnt (n n0 : Nat) (m : M) (c : Nat → Nat) : Prop where
  a : ∀ i, i < n → phi (m.prog i) (m.hd i) ≤ c i
  b : Unl n0 m ∨ ∃ g, g < n ∧ 3 + psi (m.prog g) (m.hd g) ≤ c g
theorem Unl.upd {n0 h : Nat} {m m1 : M} {x : Hd} (U : Unl n0 m) (hl : h < m.hands.length) (eh : m1.hands = m.hands) (ep : m1.progs = m.progs) (l1 : n0 ≤ m1.links.length) (l2 : ∀ k, k < n0 → m1.links.getD k 0 = m.links.getD k 0) (t : m1.top ≤ n0)
    (h1 : ∀ v, (m.prog h)[x.at_]? = some (.push v) → x.follow = none)
    (h2 : (m.prog h)[x.at_]? = some .pop → x.cell = 0 → (∀ s, x.seen = some s → 1 ≤ s.1 ∧ s.1 ≤ n0) ∧ ∀ f, x.follow = some f → ∃ c, x.seen = some (f + 1, c)) : Unl n0 (m1.setH h x) := by
  have H := set_hh (x := x) eh hl
  have N := fun j n => set_hn (x := x) eh hl (j := j) n
  have P : ∀ j, (m1.setH h x).prog j = m.prog j := fun j => by show m1.progs.getD j [] = _; rw [ep]; rfl
  refine ⟨l1, fun k hk => (l2 k hk).trans (U.ln k hk), t, fun i => ?_⟩
  rw [P]
  by_cases e : i = h
  · subst e
    rw [H]
    exact ⟨h1, h2⟩
  · rw [N i e]
    exact U.hd i
theorem cnt_step {ps : List (List Deed)} {r : Rule} {n0 h : Nat} {m : M} {c : Nat → Nat} (f : Fine ps r m) (hl : h < ps.length) (s0 : m.strayed = false) (C : Cnt ps.length n0 m c) :
    Cnt ps.length n0 (m.step h) (fun i => c i + if i = h then 1 else 0) ∧ ((m.step h).strayed = true → ∃ g, g < ps.length ∧ 3 + psi (m.prog g) (m.hd g) ≤ c g ∧ 2 ≤ c h ∧ (g = h → 6 ≤ c h)) := by
  have hl' : h < m.hands.length := by rw [f.hn]; exact hl
  have K := f.hand h
  have ah := C.a h hl
  have oth := (step_progs m h).2.2.2
  have P := fun i => step_prog m h i
  -- what is to be shown of the hand, and of the links
  have fin : ∀ (x : Hd), (m.step h).hd h = x → phi (m.prog h) x ≤ phi (m.prog h) (m.hd h) + 1 → psi (m.prog h) x ≤ psi (m.prog h) (m.hd h) + 1 → (Unl n0 m → Unl n0 (m.step h) ∨ 3 + psi (m.prog h) x ≤ c h + 1) → Cnt ps.length n0 (m.step h) (fun i => c i + if i = h then 1 else 0) := by
    intro x ex h1 h2 h3
    refine ⟨fun i hi => ?_, ?_⟩
    · rw [P]
      by_cases e : i = h
      · subst e
        rw [ex, if_pos rfl]
        omega
      · rw [oth i e, if_neg e]
        exact C.a i hi
    · rcases C.b with U | ⟨g, hg, hb⟩
      · rcases h3 U with U' | z
        · exact .inl U'
        · exact .inr ⟨h, hl, by rw [P, ex, if_pos rfl]; exact z⟩
      · refine .inr ⟨g, hg, ?_⟩
        rw [P]
        by_cases e : g = h
        · subst e
          rw [ex, if_pos rfl]
          omega
        · rw [oth g e, if_neg e]
          exact hb
  have mv := move m h
  generalize (m.turn h).1 = t at mv
  generalize hm' : m.step h = m' at mv fin ⊢
  have ns : m'.strayed = m.strayed → (m'.strayed = true → ∃ g, g < ps.length ∧ 3 + psi (m.prog g) (m.hd g) ≤ c g ∧ 2 ≤ c h ∧ (g = h → 6 ≤ c h)) := fun e z => by
    rw [e, s0] at z
    cases z
  cases mv with
  | rests hd => exact ⟨fin _ rfl (Nat.le_succ _) (Nat.le_succ _) fun U => .inl U, ns rfl⟩
  | takesF v cc hd hc hp =>
    have e2 := set_hh (m := m) (m1 := { m with freed := m.freed.erase cc, worths := m.worths.set (cc - 1) v }) (x := { m.hd h with cell := cc }) rfl hl'
    refine ⟨fin _ e2 ?_ ?_ (fun U => .inl (U.upd hl' rfl rfl U.ll (fun _ _ => rfl) U.top (U.hd h).1 (fun z => by rw [show (m.prog h)[(m.hd h).at_]? = _ from z] at hd; cases hd))), ns rfl⟩
    · rw [phi_push (x := { m.hd h with cell := cc }) hd, phi_push hd]
      show (if cc = 0 then 0 else 1) + one (m.hd h).seen + one (m.hd h).follow ≤ _
      split <;> omega
    · rw [psi_push (x := { m.hd h with cell := cc }) hd]
      exact Nat.zero_le _
  | takesN v hd hc hp =>
    have e2 := set_hh (m := m) (m1 := { m with worths := m.worths ++ [v], links := m.links ++ [0] }) (x := { m.hd h with cell := m.worths.length + 1 }) rfl hl'
    refine ⟨fin _ e2 ?_ ?_ (fun U => .inl (U.upd hl' rfl rfl (by rw [List.length_append]; have := U.ll; omega) (fun k hk => ?_) U.top (U.hd h).1 (fun z => by rw [show (m.prog h)[(m.hd h).at_]? = _ from z] at hd; cases hd))), ns rfl⟩
    · rw [phi_push (x := { m.hd h with cell := m.worths.length + 1 }) hd, phi_push hd]
      show (if m.worths.length + 1 = 0 then 0 else 1) + one (m.hd h).seen + one (m.hd h).follow ≤ _
      split <;> omega
    · rw [psi_push (x := { m.hd h with cell := m.worths.length + 1 }) hd]
      exact Nat.zero_le _
    · have := U.ll
      rw [List.getD_eq_getElem?_getD, List.getElem?_append_left (by omega), ← List.getD_eq_getElem?_getD]
  | readsQ v hd hc hs =>
    have e2 := set_hh (m := m) (m1 := m) (x := { m.hd h with seen := some (m.top, m.count) }) rfl hl'
    refine ⟨fin _ e2 ?_ ?_ (fun U => .inl (U.upd hl' rfl rfl U.ll (fun _ _ => rfl) U.top (U.hd h).1 (fun z => by rw [show (m.prog h)[(m.hd h).at_]? = _ from z] at hd; cases hd))), ns rfl⟩
    · rw [phi_push (x := { m.hd h with seen := some (m.top, m.count) }) hd, phi_push hd]
      rw [hs]
      show (if (m.hd h).cell = 0 then 0 else 1) + 1 + one (m.hd h).follow ≤ (if (m.hd h).cell = 0 then 0 else 1) + 0 + one (m.hd h).follow + 1
      omega
    · rw [psi_push (x := { m.hd h with seen := some (m.top, m.count) }) hd]
      exact Nat.zero_le _
  | readsP hd hs ht =>
    have e2 := set_hh (m := m) (m1 := m) (x := { m.hd h with seen := some (m.top, m.count) }) rfl hl'
    refine ⟨fin _ e2 ?_ ?_ (fun U => .inl (U.upd hl' rfl rfl U.ll (fun _ _ => rfl) U.top (fun v z => by rw [show (m.prog h)[(m.hd h).at_]? = _ from z] at hd; cases hd) (fun z hc => ⟨fun s es => ?_, fun g eg => ?_⟩))), ns rfl⟩
    · rw [phi_pop (x := { m.hd h with seen := some (m.top, m.count) }) hd, phi_pop hd, hs]
      show 1 + one (m.hd h).follow ≤ 0 + one (m.hd h).follow + 1
      omega
    · rw [psi_pop (x := { m.hd h with seen := some (m.top, m.count) }) hd, psi_pop hd, hs]
      show 1 + (1 + one (m.hd h).follow) ≤ 1 + (0 + one (m.hd h).follow) + 1
      omega
    · cases es
      have := U.top
      exact ⟨by show 1 ≤ m.top; omega, this⟩
    · obtain ⟨cc, z⟩ := ((U.hd h).2 hd hc).2 g eg
      rw [hs] at z
      cases z
  | empty hd hs ht =>
    have e2 := set_hh (m := m) (m1 := { m with ends := m.ends ++ [(h, (m.hd h).at_)] }) (x := (m.hd h).ended .non) rfl hl'
    refine ⟨fin _ e2 (by rw [phi_new]; exact Nat.zero_le _) (by have := psi_new (p := m.prog h) (x := m.hd h) (a := .non); omega) (fun U => .inl (U.upd hl' rfl rfl U.ll (fun _ _ => rfl) U.top (fun _ _ => rfl) (fun _ _ => ⟨fun s es => (by cases es), fun g eg => (by cases eg)⟩))), ns rfl⟩
  | links v s hd hc hs hf =>
    have e2 := set_hh (m := m) (m1 := { m with links := m.links.set ((m.hd h).cell - 1) s.1 }) (x := { m.hd h with follow := some s.1 }) rfl hl'
    have e3 : psi (m.prog h) { m.hd h with follow := some s.1 } = 0 := psi_push (x := { m.hd h with follow := some s.1 }) hd
    have e4 : phi (m.prog h) (m.hd h) = 2 := by
      rw [phi_push hd, if_neg hc, hs, hf]
      rfl
    refine ⟨fin _ e2 ?_ (by rw [e3]; exact Nat.zero_le _) (fun _ => .inr (by rw [e3]; omega)), ns rfl⟩
    rw [phi_push (x := { m.hd h with follow := some s.1 }) hd, e4]
    show (if (m.hd h).cell = 0 then 0 else 1) + one (m.hd h).seen + 1 ≤ 3
    rw [if_neg hc]
    have := one_le (m.hd h).seen
    omega
  | pushed v g hd hc hs hf =>
    have e2 := set_hh (m := m) (m1 := m.exchd h (m.hd h).cell) (x := (m.hd h).ended .done) rfl hl'
    refine ⟨fin _ e2 (by rw [phi_new]; exact Nat.zero_le _) (by have := psi_new (p := m.prog h) (x := m.hd h) (a := .done); omega) (fun U => ?_), ns rfl⟩
    have := (U.hd h).1 v hd
    rw [hf] at this
    cases this
  | missQ v s g hd hc hs hf hn =>
    have e2 := set_hh (m := m) (m1 := m) (x := (m.hd h).forgot) rfl hl'
    refine ⟨fin _ e2 ?_ ?_ (fun U => .inl (U.upd hl' rfl rfl U.ll (fun _ _ => rfl) U.top (fun _ _ => rfl) (fun z => by rw [show (m.prog h)[(m.hd h).at_]? = _ from z] at hd; cases hd))), ns rfl⟩
    · rw [phi_push (x := (m.hd h).forgot) hd, phi_push hd]
      show (if (m.hd h).cell = 0 then 0 else 1) + 0 + 0 ≤ _
      omega
    · rw [psi_push (x := (m.hd h).forgot) hd]
      exact Nat.zero_le _
  | popped s hd hs hc =>
    have e2 := set_hh (m := m) (m1 := { m with freed := m.freed ++ [(m.hd h).cell] }) (x := (m.hd h).ended (.val (m.worths.getD ((m.hd h).cell - 1) 0))) rfl hl'
    refine ⟨fin _ e2 (by rw [phi_new]; exact Nat.zero_le _) (by have := psi_new (p := m.prog h) (x := m.hd h) (a := .val (m.worths.getD ((m.hd h).cell - 1) 0)); omega) (fun U => .inl (U.upd hl' rfl rfl U.ll (fun _ _ => rfl) U.top (fun _ _ => rfl) (fun _ _ => ⟨fun s es => (by cases es), fun g eg => (by cases eg)⟩))), ns rfl⟩
  | marks s hd hs hc hn hk hm =>
    have e2 := set_hh (m := m) (m1 := m) (x := { m.hd h with mark := s.1 }) rfl hl'
    refine ⟨fin _ e2 ?_ ?_ (fun U => .inl (U.upd hl' rfl rfl U.ll (fun _ _ => rfl) U.top (U.hd h).1 (U.hd h).2)), ns rfl⟩
    · rw [phi_pop (x := { m.hd h with mark := s.1 }) hd, phi_pop hd]
      exact Nat.le_succ _
    · rw [psi_pop (x := { m.hd h with mark := s.1 }) hd, psi_pop hd]
      exact Nat.le_succ _
  | looksF s hd hs hc hn hk hm ht =>
    have e2 := set_hh (m := m) (m1 := m) (x := (m.hd h).forgot) rfl hl'
    refine ⟨fin _ e2 ?_ ?_ (fun U => .inl (U.upd hl' rfl rfl U.ll (fun _ _ => rfl) U.top (fun _ _ => rfl) (fun _ _ => ⟨fun s es => (by cases es), fun g eg => (by cases eg)⟩))), ns rfl⟩
    · rw [phi_pop (x := (m.hd h).forgot) hd]
      exact Nat.zero_le _
    · rw [psi_pop (x := (m.hd h).forgot) hd, psi_pop hd]
      show 1 + (0 + 0) ≤ _
      omega
  | looksT s hd hs hc hn hk hm ht =>
    have e2 := set_hh (m := m) (m1 := m) (x := { m.hd h with looked := true }) rfl hl'
    refine ⟨fin _ e2 ?_ ?_ (fun U => .inl (U.upd hl' rfl rfl U.ll (fun _ _ => rfl) U.top (U.hd h).1 (U.hd h).2)), ns rfl⟩
    · rw [phi_pop (x := { m.hd h with looked := true }) hd, phi_pop hd]
      exact Nat.le_succ _
    · rw [psi_pop (x := { m.hd h with looked := true }) hd, psi_pop hd]
      exact Nat.le_succ _
  | follows s hd hs hc hn hf =>
    have e2 := set_hh (m := m) (m1 := m) (x := { m.hd h with follow := some (m.links.getD (s.1 - 1) 0) }) rfl hl'
    refine ⟨fin _ e2 ?_ ?_ (fun U => .inl (U.upd hl' rfl rfl U.ll (fun _ _ => rfl) U.top (fun v z => by rw [show (m.prog h)[(m.hd h).at_]? = _ from z] at hd; cases hd) (fun z hc' => ⟨((U.hd h).2 hd hc).1, fun g eg => ?_⟩))), ns rfl⟩
    · rw [phi_pop (x := { m.hd h with follow := some (m.links.getD (s.1 - 1) 0) }) hd, phi_pop hd, hf]
      show one (m.hd h).seen + 1 ≤ one (m.hd h).seen + 0 + 1
      omega
    · rw [psi_pop (x := { m.hd h with follow := some (m.links.getD (s.1 - 1) 0) }) hd, psi_pop hd, hf]
      show 1 + (one (m.hd h).seen + 1) ≤ 1 + (one (m.hd h).seen + 0) + 1
      omega
    · obtain ⟨s1, s2⟩ := ((U.hd h).2 hd hc).1 s hs
      cases eg
      refine ⟨s.2, ?_⟩
      show (m.hd h).seen = _
      rw [hs, U.ln _ (by omega)]
      obtain ⟨a, b⟩ := s
      show some (a, b) = some (a - 1 + 1, b)
      rw [Nat.sub_add_cancel s1]
  | exchanges g hd hs hc hn hf =>
    have e2 := set_hh (m := m) (m1 := { m.exchd h g with strayed := m.strayed || m.links.getD (m.top - 1) 0 != g }) (x := { m.hd h with cell := m.top }) rfl hl'
    have e3 : phi (m.prog h) (m.hd h) = 2 := by
      rw [phi_pop hd, hs, hf]
      rfl
    have unst : Unl n0 m → m.links.getD (m.top - 1) 0 = g ∧ g ≤ n0 := fun U => by
      obtain ⟨q1, q2⟩ := (U.hd h).2 hd hc
      obtain ⟨cc, z⟩ := q2 g hf
      rw [hs] at z
      have e : m.top = g + 1 := by injection z with z; exact congrArg Prod.fst z
      have := U.top
      refine ⟨?_, by omega⟩
      rw [U.ln _ (by omega)]
      omega
    refine ⟨fin _ e2 ?_ ?_ (fun U => .inl (U.upd hl' rfl rfl U.ll (fun _ _ => rfl) (unst U).2 (fun v z => by rw [show (m.prog h)[(m.hd h).at_]? = _ from z] at hd; cases hd) (fun z hc' => ?_))), fun z => ?_⟩
    · rw [phi_pop (x := { m.hd h with cell := m.top }) hd, phi_pop hd]
      exact Nat.le_succ _
    · rw [psi_pop (x := { m.hd h with cell := m.top }) hd, psi_pop hd]
      exact Nat.le_succ _
    · exact (U.hd h).2 hd hc
    · have z' : (m.strayed || m.links.getD (m.top - 1) 0 != g) = true := z
      rw [s0, Bool.false_or] at z'
      rcases C.b with U | ⟨g2, hg, hb⟩
      · rw [(unst U).1] at z'
        simp at z'
      · refine ⟨g2, hg, hb, by omega, fun e => ?_⟩
        subst e
        rw [psi_pop hd, hs, hf] at hb
        have hb2 : 3 + (1 + (1 + 1)) ≤ c g2 := hb
        omega
  | missP s g hd hs hc hn hf hx =>
    have e2 := set_hh (m := m) (m1 := m) (x := (m.hd h).forgot) rfl hl'
    refine ⟨fin _ e2 ?_ ?_ (fun U => .inl (U.upd hl' rfl rfl U.ll (fun _ _ => rfl) U.top (fun _ _ => rfl) (fun _ _ => ⟨fun s es => (by cases es), fun g eg => (by cases eg)⟩))), ns rfl⟩
    · rw [phi_pop (x := (m.hd h).forgot) hd]
      exact Nat.zero_le _
    · rw [psi_pop (x := (m.hd h).forgot) hd, psi_pop hd]
      show 1 + (0 + 0) ≤ _
      omega
theorem cnt_run {ps : List (List Deed)} {r : Rule} {n0 : Nat} : ∀ {w : List Nat} {m : M} {c : Nat → Nat}, Fine ps r m → m.strayed = false → live ps.length m w → Cnt ps.length n0 m c → Cnt ps.length n0 (m.run w) (fun i => c i + w.count i)
  | [], m, c, _, _, _, C => C
  | h :: w, m, c, f, s0, ⟨a, b, d, e⟩, C => by
    have := cnt_run (f.step a) d e (cnt_step f a s0 C).1
    have e2 : (fun i => c i + (h :: w).count i) = fun i => (c i + if i = h then 1 else 0) + w.count i := by
      funext i
      rw [List.count_cons]
      by_cases z : h = i
      · subst z
        simp
        omega
      · have z2 : ¬ i = h := fun q => z q.symm
        simp [z, z2]
    rw [e2]
    exact this
theorem count_two {g h : Nat} (n : g ≠ h) : ∀ u : List Nat, u.count g + u.count h ≤ u.length
  | [] => Nat.le_refl _
  | x :: u => by
    have ih := count_two n u
    rw [List.count_cons, List.count_cons, List.length_cons]
    by_cases e1 : x = g
    · subst e1
      simp [n]
      omega
    · by_cases e2 : x = h
      · subst e2
        simp [e1]
        omega
      · simp [e1, e2]
        omega
theorem stale_long {values : List Int} {ps : List (List Deed)} {r : Rule} {w : List Nat} (ok : okIn values ps r) (z : Stale ps.length (M.begin_ values ps r) w) : 4 < w.length := by
  obtain ⟨u, h, rfl, lu, hl, hr, hs⟩ := z
  have C0 : Cnt ps.length values.length (M.begin_ values ps r) (fun _ => 0) := by
    refine ⟨fun i _ => ?_, .inl ⟨by show values.length ≤ (List.range values.length).length; rw [List.length_range]; exact Nat.le_refl _, fun k hk => ?_, Nat.le_refl _, fun i => ?_⟩⟩
    · rw [begin_hd]
      unfold phi
      split <;> exact Nat.le_refl _
    · show (List.range values.length).getD k 0 = k
      rw [List.getD_eq_getElem?_getD, List.getElem?_range hk]
      rfl
    · rw [begin_hd]
      exact ⟨fun _ _ => rfl, fun _ _ => ⟨fun s es => (by cases es), fun g eg => (by cases eg)⟩⟩
  have C1 := cnt_run (Fine.begin_ ok) rfl lu C0
  obtain ⟨g, hg, h1, h2, h3⟩ := (cnt_step ((Fine.begin_ ok).run (live_in lu)) hl (live_stray lu rfl) C1).2 hs
  simp only [Nat.zero_add] at h1 h2 h3
  rw [List.length_append]
  show 4 < u.length + 1
  by_cases e : g = h
  · have := h3 e
    have := List.count_le_length (a := h) (l := u)
    omega
  · have := count_two e u
    omega
end SS

set_option Elab.async false
set_option linter.all false
set_option maxRecDepth 100000
set_option maxHeartbeats 4000000
namespace SS
open PySem L2

/-! ### readings by short names -/
abbrev rAddI : R2 := rI0 fun i j => .int (i + j)
abbrev rSubI : R2 := rI0 fun i j => .int (i - j)
abbrev rMulI : R2 := rI CMul fun i j => .int (i * j)
abbrev rModI : R2 := rI (fun _ j => 0 < j) fun i j => .int (i % j)
abbrev rFdivI : R2 := rI CDiv fun i j => .int (i / j)
abbrev rPowI : R2 := rI CPow fun i j => .int (i ^ j.toNat)
abbrev rLtI : R2 := rI0 fun i j => .bl (decide (i < j))
abbrev rLeI : R2 := rI0 fun i j => .bl (decide (i ≤ j))
abbrev rGtI : R2 := rI0 fun i j => .bl (decide (j < i))
abbrev rGeI : R2 := rI0 fun i j => .bl (decide (j ≤ i))
abbrev rNegI : V → Hp → VK → Prop := rU fun i => .int (-i)
abbrev rIsN : R2 := fun x y H Q => y = .non ∧ Q (.bl (decide (x = .non))) H
abbrev rNotN : R2 := fun x y H Q => y = .non ∧ Q (.bl (!decide (x = .non))) H
abbrev rLen1 (K : PySem.W.Frag) : List V → Hp → VK → Prop := fun xs H Q => ∃ p ys, xs = [.ref p] ∧ (SqL K H p ys ∨ SqT K H p ys) ∧ Q (.int ys.length) H
abbrev rListOf (K : PySem.W.Frag) : List V → Hp → VK → Prop := fun xs H Q => ∃ p ys, xs = [.ref p] ∧ (SqL K H p ys ∨ SqT K H p ys) ∧ ∀ l, H l = none → Q (.ref l) (upd H l (.lst ys))
abbrev rTupleOf (K : PySem.W.Frag) : List V → Hp → VK → Prop := fun xs H Q => ∃ p ys, xs = [.ref p] ∧ ((SqL K H p ys ∧ ∀ l, H l = none → Q (.ref l) (upd H l (.tup ys))) ∨ (SqT K H p ys ∧ Q (.ref p) H))
abbrev rInt1 : List V → Hp → VK → Prop := fun xs H Q => (∃ i, xs = [.int i] ∧ Q (.int i) H) ∨ ∃ k, xs = [.bl k] ∧ Q (.int (if k then 1 else 0)) H
abbrev rMax2 : List V → Hp → VK → Prop := fun xs H Q => ∃ i j, xs = [.int i, .int j] ∧ Q (.int (if j > i then j else i)) H
abbrev rMin2 : List V → Hp → VK → Prop := fun xs H Q => ∃ i j, xs = [.int i, .int j] ∧ Q (.int (if j < i then j else i)) H

/-! ### where the classes stand -/
structure Cs where
  K : PySem.W.Frag
  H : Addr
  M : Addr

/-! ### values -/
abbrev natV (n : Nat) : V := .int n
def ansV : Ans → V
  | .non => .non
  | .done => .str "done"
  | .val v => .int v
def optV : Option Nat → V
  | none => .non
  | some n => .int n
def deedVs : Deed → List V
  | .pop => [.str "pop"]
  | .push v => [.str "push", .int v]

structure HA where
  h : Addr
  dx : Addr
  prog : Addr
  said : Addr
structure MA where
  p : Addr
  dx : Addr
  rule : Addr
  worths : Addr
  links : Addr
  freed : Addr
  handsL : Addr
  ends : Addr
  hs : List HA

def hf (a : HA) (sv : V) (x : Hd) : List (Str × V) :=
  [("program", .ref a.prog), ("at", .int x.at_), ("cell", .int x.cell), ("seen", sv), ("follow", optV x.follow), ("mark", .int x.mark), ("looked", .bl x.looked), ("said", .ref a.said)]
def mf (A : MA) (m : M) : List (Str × V) :=
  [("rule", .ref A.rule), ("worths", .ref A.worths), ("links", .ref A.links), ("top", .int m.top), ("count", .int m.count), ("freed", .ref A.freed), ("hands", .ref A.handsL), ("ends", .ref A.ends), ("strayed", .bl m.strayed)]

section
variable (a : HA) (sv : V) (x : Hd) (A : MA) (m : M)
theorem hf_program : (hf a sv x).lookup ("program" : Str) = some (.ref a.prog) := by kernel_rfl
theorem hf_at : (hf a sv x).lookup ("at" : Str) = some (.int x.at_) := by kernel_rfl
theorem hf_cell : (hf a sv x).lookup ("cell" : Str) = some (.int x.cell) := by kernel_rfl
theorem hf_seen : (hf a sv x).lookup ("seen" : Str) = some sv := by kernel_rfl
theorem hf_follow : (hf a sv x).lookup ("follow" : Str) = some (optV x.follow) := by kernel_rfl
theorem hf_mark : (hf a sv x).lookup ("mark" : Str) = some (.int x.mark) := by kernel_rfl
theorem hf_looked : (hf a sv x).lookup ("looked" : Str) = some (.bl x.looked) := by kernel_rfl
theorem hf_said : (hf a sv x).lookup ("said" : Str) = some (.ref a.said) := by kernel_rfl
theorem mf_rule : (mf A m).lookup ("rule" : Str) = some (.ref A.rule) := by kernel_rfl
theorem mf_worths : (mf A m).lookup ("worths" : Str) = some (.ref A.worths) := by kernel_rfl
theorem mf_links : (mf A m).lookup ("links" : Str) = some (.ref A.links) := by kernel_rfl
theorem mf_top : (mf A m).lookup ("top" : Str) = some (.int m.top) := by kernel_rfl
theorem mf_count : (mf A m).lookup ("count" : Str) = some (.int m.count) := by kernel_rfl
theorem mf_freed : (mf A m).lookup ("freed" : Str) = some (.ref A.freed) := by kernel_rfl
theorem mf_hands : (mf A m).lookup ("hands" : Str) = some (.ref A.handsL) := by kernel_rfl
theorem mf_ends : (mf A m).lookup ("ends" : Str) = some (.ref A.ends) := by kernel_rfl
theorem mf_strayed : (mf A m).lookup ("strayed" : Str) = some (.bl m.strayed) := by kernel_rfl
theorem pf_at (n : Nat) : putF "at" (.int n) (hf a sv x) = hf a sv { x with at_ := n } := by kernel_rfl
theorem pf_cell (n : Nat) : putF "cell" (.int n) (hf a sv x) = hf a sv { x with cell := n } := by kernel_rfl
theorem pf_seen (v : V) : putF "seen" v (hf a sv x) = hf a v x := by kernel_rfl
theorem pf_follow (o : Option Nat) : putF "follow" (optV o) (hf a sv x) = hf a sv { x with follow := o } := by kernel_rfl
theorem pf_mark (n : Nat) : putF "mark" (.int n) (hf a sv x) = hf a sv { x with mark := n } := by kernel_rfl
theorem pf_looked (b : Bool) : putF "looked" (.bl b) (hf a sv x) = hf a sv { x with looked := b } := by kernel_rfl
theorem pf_top (n : Nat) : putF "top" (.int n) (mf A m) = mf A { m with top := n } := by kernel_rfl
theorem pf_count (n : Nat) : putF "count" (.int n) (mf A m) = mf A { m with count := n } := by kernel_rfl
theorem pf_strayed (b : Bool) : putF "strayed" (.bl b) (mf A m) = mf A { m with strayed := b } := by kernel_rfl
end
/-- no attribute is a method's name -/
theorem mf_no (A : MA) (m : M) : ∀ x ∈ (["need_hand", "rests", "marks", "taken", "turn", "read", "ended", "forget", "exchange", "push", "pop", "guard", "pile", "is_done", "is_stale", "answers", "marked", "order", "free", "top_now", "nexts", "pile_values", "twin", "state"] : List Str), (mf A m).lookup x = none := by
  intro x hx
  simp only [List.mem_cons, List.not_mem_nil, or_false] at hx
  rcases hx with rfl | rfl | rfl | rfl | rfl | rfl | rfl | rfl | rfl | rfl | rfl | rfl | rfl | rfl | rfl | rfl | rfl | rfl | rfl | rfl | rfl | rfl | rfl | rfl <;> kernel_rfl
end SS

set_option Elab.async false
set_option linter.all false
set_option maxRecDepth 100000
set_option maxHeartbeats 4000000
namespace SS
open PySem L2

/-! ### what evaluates to what, the heap as it stands -/
def Ev (te : TE) (s : L2.St) (H : Hp) (v : V) : Prop := ∀ Q : VK, Q v H → te s H Q
def EvT (tt : TT) (s : L2.St) (H : Hp) (b : Bool) : Prop := ∀ Q : Bool → Hp → Prop, Q b H → tt s H Q
def EvA (ta : TA) (s : L2.St) (H : Hp) (vs : List V) : Prop := ∀ Q : List V → Hp → Prop, Q vs H → ta s H Q
def EvO (to : TO) (s : L2.St) (H : Hp) (o : Option Int) : Prop := ∀ Q : Option Int → Hp → Prop, Q o H → to s H Q
section
variable {K : PySem.W.Frag} {s : L2.St} {H : Hp} {ta tb tc te : TE} {t u : TT} {x y z v : V} {i j : Int}
theorem ev_var {n : Nat} (h : s[n]? = some (some v)) : Ev (tVar n) s H v := fun _ q => ⟨v, h, q⟩
theorem ev_c : Ev (tC v) s H v := fun _ q => q
theorem ev_add (ha : Ev ta s H (.int i)) (hb : Ev tb s H (.int j)) : Ev (tOp rAddI ta tb) s H (.int (i + j)) := fun _ q => ha _ (hb _ ⟨_, _, rfl, rfl, q⟩)
theorem ev_sub (ha : Ev ta s H (.int i)) (hb : Ev tb s H (.int j)) : Ev (tOp rSubI ta tb) s H (.int (i - j)) := fun _ q => ha _ (hb _ ⟨_, _, rfl, rfl, q⟩)
theorem ev_mul (ha : Ev ta s H (.int i)) (hb : Ev tb s H (.int j)) (h : CMul i j) : Ev (tOp rMulI ta tb) s H (.int (i * j)) := fun _ q => ha _ (hb _ ⟨_, _, rfl, rfl, h, q⟩)
theorem ev_mod (ha : Ev ta s H (.int i)) (hb : Ev tb s H (.int j)) (h : 0 < j) : Ev (tOp rModI ta tb) s H (.int (i % j)) := fun _ q => ha _ (hb _ ⟨_, _, rfl, rfl, h, q⟩)
theorem ev_fdiv (ha : Ev ta s H (.int i)) (hb : Ev tb s H (.int j)) (h : CDiv i j) : Ev (tOp rFdivI ta tb) s H (.int (i / j)) := fun _ q => ha _ (hb _ ⟨_, _, rfl, rfl, h, q⟩)
theorem ev_pow (ha : Ev ta s H (.int i)) (hb : Ev tb s H (.int j)) (h : CPow i j) : Ev (tOp rPowI ta tb) s H (.int (i ^ j.toNat)) := fun _ q => ha _ (hb _ ⟨_, _, rfl, rfl, h, q⟩)
theorem ev_neg (ha : Ev ta s H (.int i)) : Ev (tUn rNegI ta) s H (.int (-i)) := fun _ q => ha _ ⟨_, rfl, q⟩
theorem ev_lt (ha : Ev ta s H (.int i)) (hb : Ev tb s H (.int j)) : Ev (tOp rLtI ta tb) s H (.bl (decide (i < j))) := fun _ q => ha _ (hb _ ⟨_, _, rfl, rfl, q⟩)
theorem ev_le (ha : Ev ta s H (.int i)) (hb : Ev tb s H (.int j)) : Ev (tOp rLeI ta tb) s H (.bl (decide (i ≤ j))) := fun _ q => ha _ (hb _ ⟨_, _, rfl, rfl, q⟩)
theorem ev_gt (ha : Ev ta s H (.int i)) (hb : Ev tb s H (.int j)) : Ev (tOp rGtI ta tb) s H (.bl (decide (j < i))) := fun _ q => ha _ (hb _ ⟨_, _, rfl, rfl, q⟩)
theorem ev_ge (ha : Ev ta s H (.int i)) (hb : Ev tb s H (.int j)) : Ev (tOp rGeI ta tb) s H (.bl (decide (j ≤ i))) := fun _ q => ha _ (hb _ ⟨_, _, rfl, rfl, q⟩)
theorem ev_eq (ha : Ev ta s H x) (hb : Ev tb s H y) (h : scal x y = true) : Ev (tOp rEq ta tb) s H (.bl (decide (x = y))) := fun _ q => ha _ (hb _ ⟨h, q⟩)
theorem ev_ne (ha : Ev ta s H x) (hb : Ev tb s H y) (h : scal x y = true) : Ev (tOp rNe ta tb) s H (.bl (!decide (x = y))) := fun _ q => ha _ (hb _ ⟨h, q⟩)
theorem ev_isN (ha : Ev ta s H x) : Ev (tOp rIsN ta (tC .non)) s H (.bl (decide (x = .non))) := fun _ q => ha _ ⟨rfl, q⟩
theorem ev_notN (ha : Ev ta s H x) : Ev (tOp rNotN ta (tC .non)) s H (.bl (!decide (x = .non))) := fun _ q => ha _ ⟨rfl, q⟩
theorem ev_isB {a b : Bool} (ha : Ev ta s H (.bl a)) (hb : Ev tb s H (.bl b)) : Ev (tOp rIsB ta tb) s H (.bl (decide (a = b))) := fun _ q => ha _ (hb _ ⟨_, _, rfl, rfl, q⟩)
theorem ev_notB {a b : Bool} (ha : Ev ta s H (.bl a)) (hb : Ev tb s H (.bl b)) : Ev (tOp rNotB ta tb) s H (.bl (!decide (a = b))) := fun _ q => ha _ (hb _ ⟨_, _, rfl, rfl, q⟩)
theorem ev_eqD {d e : PyData} (ha : Ev ta s H x) (hb : Ev tb s H y) (h1 : Dp K H x d) (h2 : Dp K H y e) (s1 : SeqAt.shaped d = true) (s2 : SeqAt.shaped e = true) : Ev (tOp (rEqD K) ta tb) s H (.bl (PyData.eqv d e)) :=
  fun _ q => ha _ (hb _ ⟨d, e, h1, h2, s1, s2, q⟩)
theorem ev_neD {d e : PyData} (ha : Ev ta s H x) (hb : Ev tb s H y) (h1 : Dp K H x d) (h2 : Dp K H y e) (s1 : SeqAt.shaped d = true) (s2 : SeqAt.shaped e = true) : Ev (tOp (rNeD K) ta tb) s H (.bl (!PyData.eqv d e)) :=
  fun _ q => ha _ (hb _ ⟨d, e, h1, h2, s1, s2, q⟩)
theorem ev_fld {a C dx : Addr} {fs : List (Str × V)} {f : Str} (ha : Ev ta s H (.ref a)) (h : H a = some (.ins C dx fs)) (c : Cls K C) (n : NoAttr K C f) (l : fs.lookup f = some v) : Ev (tFld K ta f) s H v :=
  fun _ q => ha _ ⟨a, C, dx, fs, v, rfl, h, c, n, l, q⟩
theorem ev_ixL {p : Addr} {xs : List V} (ha : Ev ta s H (.ref p)) (hb : Ev tb s H (.int i)) (h : SqL K H p xs) (e : atI xs i = some v) : Ev (tOp (rIxL K) ta tb) s H v := fun _ q => ha _ (hb _ ⟨p, xs, i, v, rfl, rfl, h, e, q⟩)
theorem ev_ixT {p : Addr} {xs : List V} (ha : Ev ta s H (.ref p)) (hb : Ev tb s H (.int i)) (h : SqT K H p xs) (e : atI xs i = some v) : Ev (tOp (rIxT K) ta tb) s H v := fun _ q => ha _ (hb _ ⟨p, xs, i, v, rfl, rfl, h, e, q⟩)
theorem ev_lenL {p : Addr} {xs : List V} (ha : Ev ta s H (.ref p)) (h : SqL K H p xs) : Ev (tCB (rLen1 K) (tCons ta tNil)) s H (.int xs.length) := fun _ q => ha _ ⟨p, xs, rfl, .inl h, q⟩
theorem ev_lenT {p : Addr} {xs : List V} (ha : Ev ta s H (.ref p)) (h : SqT K H p xs) : Ev (tCB (rLen1 K) (tCons ta tNil)) s H (.int xs.length) := fun _ q => ha _ ⟨p, xs, rfl, .inr h, q⟩
theorem ev_inL {p : Addr} {xs : List V} {neg : Bool} (ha : Ev ta s H x) (hb : Ev tb s H (.ref p)) (h : SqL K H p xs) (f : flatV x = true) (g : xs.all flatV = true) : Ev (tOp (rIn K neg) ta tb) s H (.bl (if neg then !inV x xs else inV x xs)) :=
  fun _ q => ha _ (hb _ ⟨p, xs, rfl, .inl h, f, g, q⟩)
theorem ev_inT {p : Addr} {xs : List V} {neg : Bool} (ha : Ev ta s H x) (hb : Ev tb s H (.ref p)) (h : SqT K H p xs) (f : flatV x = true) (g : xs.all flatV = true) : Ev (tOp (rIn K neg) ta tb) s H (.bl (if neg then !inV x xs else inV x xs)) :=
  fun _ q => ha _ (hb _ ⟨p, xs, rfl, .inr h, f, g, q⟩)
theorem ev_int1 {k : Bool} (ha : Ev ta s H (.bl k)) : Ev (tCB rInt1 (tCons ta tNil)) s H (.int (if k then 1 else 0)) := fun _ q => ha _ (.inr ⟨k, rfl, q⟩)
theorem ev_is (h : Ev te s H v) (e : v = z) : Ev te s H z := e ▸ h
theorem ev_andV {a b : Bool} (h1 : Ev ta s H (.bl a)) (h2 : a = true → Ev tb s H (.bl b)) : Ev (tAndV ta tb) s H (.bl (a && b)) := fun Q q => h1 _ ⟨a, rfl, by
  cases a with
  | true => exact h2 rfl _ q
  | false => exact q⟩
theorem ev_orV {a b : Bool} (h1 : Ev ta s H (.bl a)) (h2 : a = false → Ev tb s H (.bl b)) : Ev (tOrV ta tb) s H (.bl (a || b)) := fun Q q => h1 _ ⟨a, rfl, by
  cases a with
  | true => exact q
  | false => exact h2 rfl _ q⟩
theorem ev_notV {a : Bool} (h1 : Ev ta s H (.bl a)) : Ev (tNotV ta) s H (.bl (!a)) := fun _ q => h1 _ ⟨a, rfl, q⟩
theorem ev_if {b : Bool} (h : EvT t s H b) (h1 : b = true → Ev ta s H v) (h2 : b = false → Ev tb s H v) : Ev (tIf t ta tb) s H v := fun Q q => h _ (by
  cases b with
  | true => exact h1 rfl _ q
  | false => exact h2 rfl _ q)
theorem et_test {b : Bool} (h : Ev te s H (.bl b)) : EvT (tTest te) s H b := fun _ q => h _ ⟨b, rfl, q⟩
theorem et_B {b : Bool} (h : Ev te s H (.bl b)) : EvT (tB te) s H b := fun _ q => h _ ⟨b, rfl, q⟩
theorem et_not {b : Bool} (h : EvT t s H b) : EvT (tNot t) s H (!b) := fun _ q => h _ q
theorem et_and {a b : Bool} (h1 : EvT t s H a) (h2 : a = true → EvT u s H b) : EvT (tAnd t u) s H (a && b) := fun Q q => h1 _ (by
  cases a with
  | true => exact h2 rfl _ q
  | false => exact q)
theorem et_or {a b : Bool} (h1 : EvT t s H a) (h2 : a = false → EvT u s H b) : EvT (tOr t u) s H (a || b) := fun Q q => h1 _ (by
  cases a with
  | true => exact q
  | false => exact h2 rfl _ q)
theorem et_yes : EvT tYes s H true := fun _ q => q
theorem et_is {a b : Bool} (h : EvT t s H a) (e : a = b) : EvT t s H b := e ▸ h
theorem ev_chain {r r' : R2} {a b : Bool} {ix iy iz : Int} (ha : Ev ta s H (.int ix)) (hb : Ev tb s H (.int iy)) (hc : Ev tc s H (.int iz))
    (hr : ∀ Q : VK, Q (.bl a) H → r (.int ix) (.int iy) H Q) (hr' : ∀ Q : VK, Q (.bl b) H → r' (.int iy) (.int iz) H Q) : Ev (tChain r r' ta tb tc) s H (.bl (a && b)) := fun Q q =>
  ha _ (hb _ (hr _ ⟨a, rfl, by
    cases a with
    | true => exact hc _ (hr' _ q)
    | false => exact q⟩))
theorem ev_leLe {ix iy iz : Int} (ha : Ev ta s H (.int ix)) (hb : Ev tb s H (.int iy)) (hc : Ev tc s H (.int iz)) : Ev (tChain rLeI rLeI ta tb tc) s H (.bl (decide (ix ≤ iy) && decide (iy ≤ iz))) :=
  ev_chain ha hb hc (fun _ q => ⟨_, _, rfl, rfl, q⟩) (fun _ q => ⟨_, _, rfl, rfl, q⟩)
theorem ev_leLt {ix iy iz : Int} (ha : Ev ta s H (.int ix)) (hb : Ev tb s H (.int iy)) (hc : Ev tc s H (.int iz)) : Ev (tChain rLeI rLtI ta tb tc) s H (.bl (decide (ix ≤ iy) && decide (iy < iz))) :=
  ev_chain ha hb hc (fun _ q => ⟨_, _, rfl, rfl, q⟩) (fun _ q => ⟨_, _, rfl, rfl, q⟩)
theorem ea_nil : EvA tNil s H [] := fun _ q => q
theorem ea_cons {tr : TA} {vs : List V} (h : Ev ta s H x) (hr : EvA tr s H vs) : EvA (tCons ta tr) s H (x :: vs) := fun _ q => h _ (hr _ q)

/-! ### statements -/
variable {D : Ends} {tu tw : TS} {ar : TA} {vs : List V}
theorem s_asg {n : Nat} (h : Ev te s H v) (k : D.nx (s.set n (some v)) H) : tAsg te (gName n) D s H := h _ k
theorem s_ret (h : Ev te s H v) (k : D.rt v H) : tRet te D s H := h _ k
theorem s_if_of (h : t s H (fun b H1 => if b = true then tu D s H1 else tw D s H1)) : tIfS t tu tw D s H := h
theorem t_test_of {Q : Bool → Hp → Prop} (h : te s H (fun x H1 => ∃ k, x = .bl k ∧ Q k H1)) : tTest te s H Q := h
theorem t_B_of {Q : Bool → Hp → Prop} (h : te s H (fun x H1 => ∃ k, x = .bl k ∧ Q k H1)) : tB te s H Q := h
theorem t_op_of {r : R2} {Q : VK} (h : ta s H fun x H1 => tb s H1 fun y H2 => r x y H2 Q) : tOp r ta tb s H Q := h
theorem s_ret_of (h : te s H D.rt) : tRet te D s H := h
theorem s_asg_of {g : TG} (h : te s H (fun x H1 => g x s H1 D.nx)) : tAsg te g D s H := h
theorem t_cons_of {tr : TA} {Q : List V → Hp → Prop} (h : te s H fun x H1 => tr s H1 fun xs H2 => Q (x :: xs) H2) : tCons te tr s H Q := h
theorem t_tup_of {Q : VK} (h : ar s H fun xs H1 => xs.length ≤ sizeLine ∧ ∀ p, H1 p = none → Q (.ref p) (upd H1 p (.tup xs))) : tTup ar s H Q := h
theorem t_lst_of {Q : VK} (h : ar s H fun xs H1 => xs.length ≤ sizeLine ∧ ∀ p, H1 p = none → Q (.ref p) (upd H1 p (.lst xs))) : tLst ar s H Q := h
theorem t_call_of {sp : Sp} {E : XK} {Q : VK} (h : ar s H fun vs H1 => sp vs H1 Q E) : tCall sp [] E ar s H Q := by
  have e : (fun vs H1 => sp (vs ++ []) H1 Q E) = fun vs H1 => sp vs H1 Q E := by
    funext vs H1
    rw [List.append_nil]
  show ar s H (fun vs H1 => sp (vs ++ []) H1 Q E)
  rw [e]
  exact h
theorem t_cb_of {r : List V → Hp → VK → Prop} {Q : VK} (h : ar s H fun vs H1 => r vs H1 Q) : tCB r ar s H Q := h
theorem t_bm_of {T : String} {r : V → List V → Hp → VK → Prop} {to : TE} {Q : VK} (h : to s H fun x H1 => tyV K T x H1 ∧ ar s H1 fun xs H2 => r x xs H2 Q) : tBM K T r to ar s H Q := h
theorem s_seq {t u : TS} (h : t { D with nx := u D } s H) : tSeq t u D s H := h
theorem s_if {b : Bool} (h : EvT t s H b) (h1 : b = true → tu D s H) (h2 : b = false → tw D s H) : tIfS t tu tw D s H := h _ (by
  cases b with
  | true => exact h1 rfl
  | false => exact h2 rfl)
theorem s_ifT (h : EvT t s H true) (h1 : tu D s H) : tIfS t tu tw D s H := h _ h1
theorem s_ifF (h : EvT t s H false) (h1 : tw D s H) : tIfS t tu tw D s H := h _ h1
theorem s_drop' (h : te s H (fun _ H1 => D.nx s H1)) : tDrop te D s H := h
theorem s_drop (h : Ev te s H v) (k : D.nx s H) : tDrop te D s H := h _ k
/-- a field of an own object -/
theorem s_fld {a C dx : Addr} {fs : List (Str × V)} {f : Str} (hv : Ev te s H v) (ha : Ev ta s H (.ref a)) (h : H a = some (.ins C dx fs)) (c : Cls K C) (n : NoAttr K C f) (hl : fs.length < 1000) (k : D.nx s (upd H a (.ins C dx (putF f v fs)))) :
    sFld K ta te f D s H := hv _ (ha _ ⟨a, C, dx, fs, rfl, h, c, n, hl, k⟩)
theorem s_app {l : Addr} {xs : List V} (ha : Ev ta s H (.ref l)) (hl : H l = some (.lst xs)) (h : Ev te s H v) (hz : xs.length < sizeLine) (k : D.nx s (upd H l (.lst (xs ++ [v])))) :
    tDrop (tBM K "list" rAppend ta (tCons te tNil)) D s H := ha _ ⟨Or.inl ⟨rfl, xs, SqL.of hl⟩, h _ ⟨l, xs, v, rfl, rfl, hl, hz, k⟩⟩
theorem s_appX {l : Addr} {xs : List V} (ha : Ev ta s H (.ref l)) (hl : H l = some (.lst xs)) (h : te s H (fun v H1 => ∃ ys, H1 l = some (.lst ys) ∧ ys.length < sizeLine ∧ D.nx s (upd H1 l (.lst (ys ++ [v]))))) :
    tDrop (tBM K "list" rAppend ta (tCons te tNil)) D s H := ha _ ⟨Or.inl ⟨rfl, xs, SqL.of hl⟩, by
  show te s H _
  have e : (fun (v : V) (H1 : Hp) => ∃ ys, H1 l = some (.lst ys) ∧ ys.length < sizeLine ∧ D.nx s (upd H1 l (.lst (ys ++ [v])))) = fun (v : V) (H1 : Hp) => ∃ (l' : Addr) (xs : List V) (y : V), V.ref l = .ref l' ∧ [v] = [y] ∧ H1 l' = some (.lst xs) ∧ xs.length < sizeLine ∧ D.nx s (upd H1 l' (.lst (xs ++ [y]))) := by
    funext v H1
    apply propext
    constructor
    · rintro ⟨ys, h1, h2, h3⟩
      exact ⟨l, ys, v, rfl, rfl, h1, h2, h3⟩
    · rintro ⟨l', ys, y, e1, e2, h1, h2, h3⟩
      cases e1
      cases e2
      exact ⟨ys, h1, h2, h3⟩
  rw [e] at h
  exact h⟩
theorem s_setL {l : Addr} {xs : List V} {j : Nat} (h : Ev te s H v) (ho : Ev ta s H (.ref l)) (hi : Ev tb s H (.int i)) (hl : H l = some (.lst xs)) (hj : ixN xs.length i = some j) (k : D.nx s (upd H l (.lst (xs.set j v)))) :
    tAsg te (gSub ta tb rSetL) D s H := h _ (ho _ (hi _ ⟨l, xs, i, j, rfl, rfl, hl, hj, k⟩))
/-- a call of an own def -/
theorem s_call {sp : Sp} {E : XK} {Q : VK} (h : EvA ar s H vs) (k : sp vs H Q E) : tCall sp [] E ar s H Q := h _ (by rw [List.append_nil]; exact k)
theorem s_meth {C a dx : Addr} {m : Str} {sp : Sp} {E : XK} {fs : List (Str × V)} {Q : VK} (ha : Ev ta s H (.ref a)) (h : H a = some (.ins C dx fs)) (hm : fs.lookup m = none) (hv : EvA ar s H vs) (k : sp (.ref a :: vs) H Q E) :
    tMeth C m sp [] E ta ar s H Q := ha _ ⟨a, dx, fs, rfl, h, hm, hv _ (by simpa using k)⟩
/-- a new tuple -/
theorem e_tup {Q : VK} (h : EvA ar s H vs) (hl : vs.length ≤ 1000) (k : ∀ p, H p = none → Q (.ref p) (upd H p (.tup vs))) : tTup ar s H Q := h _ ⟨Nat.le_trans hl (by decide), k⟩
theorem e_lst {Q : VK} (h : EvA ar s H vs) (hl : vs.length ≤ 1000) (k : ∀ p, H p = none → Q (.ref p) (upd H p (.lst vs))) : tLst ar s H Q := h _ ⟨Nat.le_trans hl (by decide), k⟩
theorem e_listOf {Q : VK} {p : Addr} {xs : List V} (ha : Ev ta s H (.ref p)) (h : SqL K H p xs ∨ SqT K H p xs) (k : ∀ l, H l = none → Q (.ref l) (upd H l (.lst xs))) : tCB (rListOf K) (tCons ta tNil) s H Q :=
  ha _ ⟨p, xs, rfl, h, k⟩

/-! ### loops and comprehensions -/
abbrev Turn (D : Addr) (g : TG) (tt : TT) (te : TE) (vs : List Nat) (s : L2.St) (P : Hp → Prop) (x : V) (H : Hp) : Prop :=
  g x (wipe s vs) H fun s2 H2 => wipe s2 vs = wipe s vs ∧ tt s2 H2 fun b H3 => if b = true then te s2 H3 fun y H4 => ∃ acc, H4 D = some (.lst acc) ∧ acc.length < sizeLine ∧ P (upd H4 D (.lst (acc ++ [y]))) else P H3
theorem e_lcL {tl : TE} {g : TG} {ws : List Nat} {a : Addr} {xs : List V} {Q : VK} (ht : Ev tl s H (.ref a)) (h : SqL K H a xs) (Pv : Addr → Nat → Hp → Prop) (h0 : ∀ D, H D = none → Pv D 0 (upd H D (.lst [])))
    (hl : ∀ D i H', i ≤ xs.length → H D = none → Pv D i H' → SqL K H' a xs) (hs : ∀ D i x H', xs[i]? = some x → H D = none → Pv D i H' → Turn D g t te ws s (Pv D (i + 1)) x H')
    (hd : ∀ D H', H D = none → Pv D xs.length H' → Q (.ref D) H') : tLc (iList K tl) g t te ws s H Q :=
  ht _ ⟨a, rfl, ⟨_, h⟩, fun D hD => lc_list (xs := xs) (Pv D) (h0 D hD) (fun i H' hi p => hl D i H' hi hD p) (fun i x H' hx p => hs D i x H' hx hD p) fun H' p => hd D H' hD p⟩
theorem e_lcT {tl : TE} {g : TG} {ws : List Nat} {a : Addr} {xs : List V} {Q : VK} (ht : Ev tl s H (.ref a)) (h : SqT K H a xs) (Pv : Addr → Nat → Hp → Prop) (h0 : ∀ D, H D = none → Pv D 0 (upd H D (.lst [])))
    (hl : ∀ D i H', i ≤ xs.length → H D = none → Pv D i H' → SqT K H' a xs) (hs : ∀ D i x H', xs[i]? = some x → H D = none → Pv D i H' → Turn D g t te ws s (Pv D (i + 1)) x H')
    (hd : ∀ D H', H D = none → Pv D xs.length H' → Q (.ref D) H') : tLc (iTup K tl) g t te ws s H Q :=
  ht _ ⟨a, rfl, ⟨_, h⟩, fun D hD => lc_tup (xs := xs) (Pv D) (h0 D hD) (fun i H' hi p => hl D i H' hi hD p) (fun i x H' hx p => hs D i x H' hx hD p) fun H' p => hd D H' hD p⟩
theorem e_lcR {tl : TE} {g : TG} {ws : List Nat} {n : Nat} {Q : VK} (ht : Ev tl s H (.int n)) (hn : n ≤ 1000000) (Pv : Addr → Nat → Hp → Prop) (h0 : ∀ D, H D = none → Pv D 0 (upd H D (.lst [])))
    (hs : ∀ D (i : Nat) H', i < n → H D = none → Pv D i H' → Turn D g t te ws s (Pv D (i + 1)) (.int i) H')
    (hd : ∀ D H', H D = none → Pv D n H' → Q (.ref D) H') : tLc (iRng1 (tCons tl tNil)) g t te ws s H Q :=
  ht _ ⟨n, rfl, by omega, by omega, fun D hD => lc_range (lo := 0) (n := n) (Pv D) (h0 D hD) (fun i H' hi p => by
    have e0 : (0 : Int) + (i : Int) = (i : Int) := Int.zero_add _
    rw [e0]
    exact hs D i H' hi hD p) fun H' p => hd D H' hD p⟩
theorem s_forL {tl : TE} {g : TG} {tb : TS} {a : Addr} {xs : List V} (ht : Ev tl s H (.ref a)) (h : SqL K H a xs) (Pv : Nat → L2.St → Hp → Prop) (h0 : Pv 0 s H)
    (hl : ∀ i s' H', i ≤ xs.length → Pv i s' H' → SqL K H' a xs) (hs : ∀ i x s' H', xs[i]? = some x → Pv i s' H' → g x s' H' fun s2 H2 => tb { D with nx := Pv (i + 1), ct := Pv (i + 1), bk := D.nx } s2 H2)
    (hd : ∀ s' H', Pv xs.length s' H' → D.nx s' H') : tFor (iList K tl) g tb D s H := ht _ ⟨a, rfl, ⟨_, h⟩, for_list (xs := xs) Pv h0 hl hs hd⟩
/-- over a list that is made on the way -/
theorem s_forLN {tl : TE} {g : TG} {tb : TS} {xs : List V} (Pv : Addr → Nat → L2.St → Hp → Prop)
    (ht : ∀ R : VK, (∀ a H', H a = none → Same H H' → H' a = some (.lst xs) → R (.ref a) H') → tl s H R)
    (h0 : ∀ a H', H a = none → Same H H' → H' a = some (.lst xs) → Pv a 0 s H') (hl : ∀ a i s' H', i ≤ xs.length → H a = none → Pv a i s' H' → SqL K H' a xs)
    (hs : ∀ a i x s' H', xs[i]? = some x → H a = none → Pv a i s' H' → g x s' H' fun s2 H2 => tb { D with nx := Pv a (i + 1), ct := Pv a (i + 1), bk := D.nx } s2 H2)
    (hd : ∀ a s' H', H a = none → Pv a xs.length s' H' → D.nx s' H') : tFor (iList K tl) g tb D s H :=
  ht _ fun a H' ha c hL => ⟨a, rfl, ⟨_, SqL.of hL⟩, for_list (xs := xs) (Pv a) (h0 a H' ha c hL) (fun i s' H' hi p => hl a i s' H' hi ha p) (fun i x s' H' hx p => hs a i x s' H' hx ha p) fun s' H' p => hd a s' H' ha p⟩
theorem s_forT {tl : TE} {g : TG} {tb : TS} {a : Addr} {xs : List V} (ht : Ev tl s H (.ref a)) (h : SqT K H a xs) (Pv : Nat → L2.St → Hp → Prop) (h0 : Pv 0 s H)
    (hl : ∀ i s' H', i ≤ xs.length → Pv i s' H' → SqT K H' a xs) (hs : ∀ i x s' H', xs[i]? = some x → Pv i s' H' → g x s' H' fun s2 H2 => tb { D with nx := Pv (i + 1), ct := Pv (i + 1), bk := D.nx } s2 H2)
    (hd : ∀ s' H', Pv xs.length s' H' → D.nx s' H') : tFor (iTup K tl) g tb D s H := ht _ ⟨a, rfl, ⟨_, h⟩, for_tup (xs := xs) Pv h0 hl hs hd⟩
theorem s_forR {tl : TE} {g : TG} {tb : TS} {n : Nat} (ht : Ev tl s H (.int n)) (hn : n ≤ 1000000) (Pv : Nat → L2.St → Hp → Prop) (h0 : Pv 0 s H)
    (hs : ∀ (i : Nat) s' H', i < n → Pv i s' H' → g (.int i) s' H' fun s2 H2 => tb { D with nx := Pv (i + 1), ct := Pv (i + 1), bk := D.nx } s2 H2)
    (hd : ∀ s' H', Pv n s' H' → D.nx s' H') : tFor (iRng1 (tCons tl tNil)) g tb D s H := ht _ ⟨n, rfl, by omega, by omega, for_range (lo := 0) (n := n) Pv h0 (fun i s' H' hi p => by
    have e0 : (0 : Int) + (i : Int) = (i : Int) := Int.zero_add _
    rw [e0]
    exact hs i s' H' hi p) hd⟩
theorem s_while {c : TT} {tb : TS} (Pv : L2.St → Hp → Prop) (mu : L2.St → Hp → Nat) (h0 : Pv s H)
    (hs : ∀ s' H', Pv s' H' → (EvT c s' H' false ∧ D.nx s' H') ∨ (EvT c s' H' true ∧ tb { D with nx := fun s2 H2 => Pv s2 H2 ∧ mu s2 H2 < mu s' H', ct := fun s2 H2 => Pv s2 H2 ∧ mu s2 H2 < mu s' H', bk := D.nx } s' H')) : tWhile c tb D s H := by
  refine ⟨fun m s H => m = mu s H ∧ Pv s H, ⟨_, rfl, h0⟩, ?_⟩
  rintro m s' H' ⟨rfl, p⟩
  rcases hs s' H' p with ⟨e, q⟩ | ⟨e, q⟩
  · exact e _ q
  · exact e _ ⟨_, fun s2 H2 ⟨p2, l⟩ => ⟨_, l, rfl, p2⟩, q⟩
/-- the range's end is reckoned on the way -/
theorem e_lcRX {tl : TE} {g : TG} {ws : List Nat} {Q : VK} (Good : Nat → Hp → Prop) (ht : ∀ R : VK, (∀ (n : Nat) H1, Good n H1 → R (.int n) H1) → tl s H R)
    (k : ∀ (n : Nat) H1, Good n H1 → tLc (iRng1 (tCons (tC (.int n)) tNil)) g t te ws s H1 Q) : tLc (iRng1 (tCons tl tNil)) g t te ws s H Q :=
  ht _ fun n H1 h => k n H1 h
theorem s_forRX {tl : TE} {g : TG} {tb : TS} (Good : Nat → Hp → Prop) (ht : ∀ R : VK, (∀ (n : Nat) H1, Good n H1 → R (.int n) H1) → tl s H R)
    (k : ∀ (n : Nat) H1, Good n H1 → tFor (iRng1 (tCons (tC (.int n)) tNil)) g tb D s H1) : tFor (iRng1 (tCons tl tNil)) g tb D s H :=
  ht _ fun n H1 h => k n H1 h
abbrev rInsert : V → List V → Hp → VK → Prop := fun x vs H Q => ∃ (l : Addr) (xs : List V) (i : Int) (y : V), x = .ref l ∧ vs = [.int i, y] ∧ H l = some (.lst xs) ∧ xs.length < sizeLine ∧ 0 ≤ i ∧ i < 2 ^ 63 ∧ Q .non (upd H l (.lst (xs.take i.toNat ++ [y] ++ xs.drop i.toNat)))
theorem s_whileN {c : TT} {tb : TS} (Pv : Nat → L2.St → Hp → Prop) (h0 : ∃ n, Pv n s H)
    (hs : ∀ n s' H', Pv n s' H' → c s' H' fun b H1 => if b = true then tb { D with nx := fun s2 H2 => ∃ m, m < n ∧ Pv m s2 H2, ct := fun s2 H2 => ∃ m, m < n ∧ Pv m s2 H2, bk := D.nx } s' H1 else D.nx s' H1)
    (mono : ∀ s' H' R R', (∀ b H1, R b H1 → R' b H1) → c s' H' R → c s' H' R') : tWhile c tb D s H := by
  refine ⟨Pv, h0, fun n s' H' p => mono s' H' _ _ (fun b H1 q => ?_) (hs n s' H' p)⟩
  cases b with
  | true => exact ⟨_, fun s2 H2 z => z, q⟩
  | false => exact q
theorem t_make_of {C : Addr} {sp : Sp} {E : XK} {Q : VK} (h : ar s H fun vs H1 => ∀ x dx, H1 x = none → H1 dx = none → dx ≠ x → sp (.ref x :: vs) (upd (upd H1 dx (.own x)) x (.ins C dx [])) (fun v H2 => v = .non ∧ Q (.ref x) H2) E) : tMake C sp [] E ar s H Q := by
  have e : (fun vs H1 => ∀ x dx, H1 x = none → H1 dx = none → dx ≠ x → sp (.ref x :: vs) (upd (upd H1 dx (.own x)) x (.ins C dx [])) (fun v H2 => v = .non ∧ Q (.ref x) H2) E) =
      fun vs H1 => ∀ x dx, H1 x = none → H1 dx = none → dx ≠ x → sp (.ref x :: (vs ++ [])) (upd (upd H1 dx (.own x)) x (.ins C dx [])) (fun v H2 => v = .non ∧ Q (.ref x) H2) E := by
    funext vs H1
    rw [List.append_nil]
  rw [e] at h
  exact h
end
end SS

set_option Elab.async false
set_option linter.all false
set_option maxRecDepth 100000
set_option maxHeartbeats 4000000
namespace SS
open PySem L2

/-! ### what changes -/
/-- tuples, locked things -/
def stay : HO → Prop
  | .tup _ => True
  | .frz _ _ => True
  | _ => False
/-- but for what F names all that was tracked stands; tuples, and what is locked, stand anyway -/
structure Chg (F : Addr → Prop) (H H' : Hp) : Prop where
  keep : ∀ b o, H b = some o → ¬ F b → H' b = some o
  fix_ : ∀ b o, H b = some o → stay o → H' b = some o
theorem Chg.tup {F : Addr → Prop} {H H' : Hp} (c : Chg F H H') : ∀ b xs, H b = some (.tup xs) → H' b = some (.tup xs) := fun b _ h => c.fix_ b _ h trivial
theorem Chg.frz {F : Addr → Prop} {H H' : Hp} (c : Chg F H H') {b : Addr} {o : Obj} {u : HO} (h : H b = some (.frz o u)) : H' b = some (.frz o u) := c.fix_ b _ h trivial
theorem Chg.refl (F : Addr → Prop) (H : Hp) : Chg F H H := ⟨fun _ _ h _ => h, fun _ _ h _ => h⟩
theorem Chg.trans {F : Addr → Prop} {H H1 H2 : Hp} (a : Chg F H H1) (b : Chg F H1 H2) : Chg F H H2 :=
  ⟨fun c o h n => b.keep c o (a.keep c o h n) n, fun c o h s => b.fix_ c o (a.fix_ c o h s) s⟩
theorem Chg.mono {F G : Addr → Prop} {H H' : Hp} (a : Chg F H H') (h : ∀ b, F b → G b) : Chg G H H' := ⟨fun c o e n => a.keep c o e fun z => n (h c z), a.fix_⟩
theorem Chg.same {F : Addr → Prop} {H H' : Hp} (a : Same H H') : Chg F H H' := ⟨fun b o h _ => a b o h, fun b o h _ => a b o h⟩
theorem Same.new {H : Hp} {p : Addr} {o : HO} (h : H p = none) : Same H (upd H p o) := fun b u e => by rw [upd_ne (ne_of_none e h)]; exact e
/-- something that may be changed, at an address of F, is put -/
theorem Chg.put {F : Addr → Prop} {H : Hp} {a : Addr} {o : HO} (hF : F a) (nt : ∀ u, H a = some u → ¬ stay u) : Chg F H (upd H a o) :=
  ⟨fun b u e n => by
    have hb : b ≠ a := fun z => n (by rw [z]; exact hF)
    rw [upd_ne hb]
    exact e, fun b u e s => by
    have hb : b ≠ a := fun z => nt u (by rw [← z]; exact e) s
    rw [upd_ne hb]
    exact e⟩

/-! ### data that stands -/
def SeenAt (H : Hp) (v : V) : Option (Nat × Nat) → Prop
  | none => v = .non
  | some (t, k) => ∃ q, v = .ref q ∧ H q = some (.tup [.int t, .int k])
def PairAt (H : Hp) (v : V) (p : Nat × Nat) : Prop := ∃ q, v = .ref q ∧ H q = some (.tup [.int p.1, .int p.2])
def DeedAt (H : Hp) (v : V) (d : Deed) : Prop := ∃ q, v = .ref q ∧ H q = some (.tup (deedVs d))
def RuleAt (H : Hp) (a : Addr) : Rule → Prop
  | .counts m => H a = some (.tup [.str "counts", .int m])
  | .marks hs => ∃ t, H a = some (.tup [.str "marks", .ref t]) ∧ H t = some (.tup (hs.map natV))
  | .keeps => H a = some (.tup [.str "keeps"])
inductive All2 {α β : Type} (R : α → β → Prop) : List α → List β → Prop where
  | nil : All2 R [] []
  | cons {a b l m} : R a b → All2 R l m → All2 R (a :: l) (b :: m)
theorem All2.mono {α β : Type} {R S : α → β → Prop} (h : ∀ a b, R a b → S a b) : ∀ {l m}, All2 R l m → All2 S l m
  | _, _, .nil => .nil
  | _, _, .cons r t => .cons (h _ _ r) (All2.mono h t)
theorem All2.length {α β : Type} {R : α → β → Prop} : ∀ {l m}, All2 R l m → l.length = m.length
  | _, _, .nil => rfl
  | _, _, .cons _ t => by simp [All2.length t]
theorem All2.get {α β : Type} {R : α → β → Prop} : ∀ {l m} (i : Nat) {b : β}, All2 R l m → m[i]? = some b → ∃ a, l[i]? = some a ∧ R a b
  | _, _, i, b, .nil, h => by simp at h
  | _, _, 0, b, .cons r t, h => ⟨_, rfl, by have e := Option.some.inj h; subst e; exact r⟩
  | _, _, i + 1, b, .cons r t, h => All2.get i t h
theorem All2.snoc {α β : Type} {R : α → β → Prop} {a : α} {b : β} (h : R a b) : ∀ {l m}, All2 R l m → All2 R (l ++ [a]) (m ++ [b])
  | _, _, .nil => .cons h .nil
  | _, _, .cons r t => .cons r (All2.snoc h t)
theorem All2.map {α β γ : Type} {R : α → β → Prop} {f : γ → α} {g : γ → β} : ∀ {l : List γ}, (∀ c ∈ l, R (f c) (g c)) → All2 R (l.map f) (l.map g)
  | [], _ => .nil
  | c :: l, h => .cons (h c List.mem_cons_self) (All2.map fun d hd => h d (List.mem_cons_of_mem _ hd))

section
variable {H H' : Hp}
abbrev Tups (H H' : Hp) : Prop := ∀ b xs, H b = some (.tup xs) → H' b = some (.tup xs)
theorem SeenAt.mono (t : Tups H H') {v : V} : ∀ {o : Option (Nat × Nat)}, SeenAt H v o → SeenAt H' v o
  | none, h => h
  | some (_, _), ⟨q, e, h⟩ => ⟨q, e, t _ _ h⟩
theorem PairAt.mono (t : Tups H H') {v : V} {p : Nat × Nat} (h : PairAt H v p) : PairAt H' v p := let ⟨q, e, h⟩ := h; ⟨q, e, t _ _ h⟩
theorem DeedAt.mono (t : Tups H H') {v : V} {p : Deed} (h : DeedAt H v p) : DeedAt H' v p := let ⟨q, e, h⟩ := h; ⟨q, e, t _ _ h⟩
theorem RuleAt.mono (t : Tups H H') {a : Addr} : ∀ {r : Rule}, RuleAt H a r → RuleAt H' a r
  | .counts _, h => t _ _ h
  | .marks _, ⟨q, h1, h2⟩ => ⟨q, t _ _ h1, t _ _ h2⟩
  | .keeps, h => t _ _ h
end

/-! ### the machine, part by part -/
inductive Role where
  | m | worths | links | freed | handsL | ends
  | hand (i : Nat) | said (i : Nat) | prog (i : Nat)
  deriving DecidableEq
def MA.at (A : MA) : Role → Option Addr
  | .m => some A.p
  | .worths => some A.worths
  | .links => some A.links
  | .freed => some A.freed
  | .handsL => some A.handsL
  | .ends => some A.ends
  | .hand i => (A.hs[i]?).map (·.h)
  | .said i => (A.hs[i]?).map (·.said)
  | .prog i => (A.hs[i]?).map (·.prog)
def MA.owns (A : MA) (a : Addr) : Prop := ∃ r, A.at r = some a
def Cont (Z : Cs) (H : Hp) (A : MA) (m : M) : Role → HO → Prop
  | .m, o => o = .ins Z.M A.dx (mf A m)
  | .worths, o => o = .lst (m.worths.map V.int)
  | .links, o => o = .lst (m.links.map natV)
  | .freed, o => o = .lst (m.freed.map natV)
  | .handsL, o => o = .lst (A.hs.map fun a => V.ref a.h)
  | .ends, o => ∃ vs, o = .lst vs ∧ All2 (PairAt H) vs m.ends
  | .hand i, o => ∃ a sv, A.hs[i]? = some a ∧ o = .ins Z.H a.dx (hf a sv (m.hd i)) ∧ SeenAt H sv (m.hd i).seen
  | .said i, o => o = .lst ((m.hd i).said.map ansV)
  | .prog i, o => ∃ vs, o = .lst vs ∧ All2 (DeedAt H) vs (m.prog i)
structure MachAt (Z : Cs) (H : Hp) (A : MA) (m : M) : Prop where
  at_ : ∀ r a, A.at r = some a → ∃ o, H a = some o ∧ Cont Z H A m r o
  rule : RuleAt H A.rule m.rule
  hs : A.hs.length = m.hands.length
  ps : m.progs.length = m.hands.length
  sep : ∀ r r' a, A.at r = some a → A.at r' = some a → r = r'
section
variable {Z : Cs} {H H' : Hp} {A : MA} {m m' : M}
theorem Cont.mono (t : Tups H H') {r : Role} {o : HO} (h : Cont Z H A m r o) : Cont Z H' A m r o := by
  cases r with
  | ends => obtain ⟨vs, e, h⟩ := h; exact ⟨vs, e, h.mono fun _ _ => PairAt.mono t⟩
  | hand i => obtain ⟨a, sv, h1, h2, h3⟩ := h; exact ⟨a, sv, h1, h2, h3.mono t⟩
  | prog i => obtain ⟨vs, e, h⟩ := h; exact ⟨vs, e, h.mono fun _ _ => DeedAt.mono t⟩
  | _ => exact h
theorem Cont.nostay {r : Role} {u : HO} (h : Cont Z H A m r u) : ¬ stay u := by
  cases r with
  | ends => obtain ⟨vs, rfl, h⟩ := h; exact fun z => z
  | hand i => obtain ⟨a, sv, h1, rfl, h3⟩ := h; exact fun z => z
  | prog i => obtain ⟨vs, rfl, h⟩ := h; exact fun z => z
  | _ => (have e : u = _ := h); subst e; exact fun z => z
theorem MachAt.nostay (T : MachAt Z H A m) {a : Addr} (h : A.owns a) (u : HO) (e : H a = some u) : ¬ stay u := by
  obtain ⟨r, hr⟩ := h
  obtain ⟨o, ho, hc⟩ := T.at_ r a hr
  rw [ho] at e
  cases e
  exact hc.nostay
/-- all that the machine owns stands -/
theorem MachAt.chg {F : Addr → Prop} (T : MachAt Z H A m) (c : Chg F H H') (d : ∀ a, A.owns a → ¬ F a) : MachAt Z H' A m where
  at_ := fun r a ha => by
    obtain ⟨o, ho, hc⟩ := T.at_ r a ha
    exact ⟨o, c.keep a o ho (d a ⟨r, ha⟩), hc.mono c.tup⟩
  rule := T.rule.mono c.tup
  hs := T.hs
  ps := T.ps
  sep := T.sep
theorem MachAt.same (T : MachAt Z H A m) (c : Same H H') : MachAt Z H' A m := T.chg (F := fun _ => False) (Chg.same c) fun _ _ z => z
theorem MachAt.new (T : MachAt Z H A m) {p : Addr} {o : HO} (h : H p = none) : MachAt Z (upd H p o) A m := T.same (Same.new h)
/-- one part is changed -/
theorem MachAt.put (T : MachAt Z H A m) {r : Role} {a : Addr} {o : HO} (ha : A.at r = some a) (hc : ∀ H', Tups H H' → Cont Z H' A m' r o) (oth : ∀ r' u, r' ≠ r → Cont Z H A m r' u → Cont Z H A m' r' u)
    (hr : m'.rule = m.rule) (hh : m'.hands.length = m.hands.length) (hp : m'.progs = m.progs) : MachAt Z (upd H a o) A m' ∧ Chg A.owns H (upd H a o) := by
  have c : Chg A.owns H (upd H a o) := Chg.put ⟨r, ha⟩ (T.nostay ⟨r, ha⟩)
  refine ⟨⟨fun r' b hb => ?_, by rw [hr]; exact T.rule.mono c.tup, by rw [hh]; exact T.hs, by rw [hh, hp]; exact T.ps, T.sep⟩, c⟩
  by_cases e : r' = r
  · subst e
    rw [ha] at hb
    cases hb
    exact ⟨o, upd_same, hc _ c.tup⟩
  · obtain ⟨u, hu, hcu⟩ := T.at_ r' b hb
    have nb : b ≠ a := fun z => e (T.sep r' r b hb (by rw [z]; exact ha))
    exact ⟨u, by rw [upd_ne nb]; exact hu, (oth r' u e hcu).mono c.tup⟩

/-! ### reading the parts -/
theorem MachAt.obj (T : MachAt Z H A m) : H A.p = some (.ins Z.M A.dx (mf A m)) := by
  obtain ⟨o, ho, rfl⟩ := T.at_ .m A.p rfl
  exact ho
theorem MachAt.worthsL (T : MachAt Z H A m) : H A.worths = some (.lst (m.worths.map V.int)) := by
  obtain ⟨o, ho, rfl⟩ := T.at_ .worths _ rfl
  exact ho
theorem MachAt.linksL (T : MachAt Z H A m) : H A.links = some (.lst (m.links.map natV)) := by
  obtain ⟨o, ho, rfl⟩ := T.at_ .links _ rfl
  exact ho
theorem MachAt.freedL (T : MachAt Z H A m) : H A.freed = some (.lst (m.freed.map natV)) := by
  obtain ⟨o, ho, rfl⟩ := T.at_ .freed _ rfl
  exact ho
theorem MachAt.handsLL (T : MachAt Z H A m) : H A.handsL = some (.lst (A.hs.map fun a => V.ref a.h)) := by
  obtain ⟨o, ho, rfl⟩ := T.at_ .handsL _ rfl
  exact ho
theorem MachAt.endsL (T : MachAt Z H A m) : ∃ vs, H A.ends = some (.lst vs) ∧ All2 (PairAt H) vs m.ends := by
  obtain ⟨o, ho, vs, rfl, h⟩ := T.at_ .ends _ rfl
  exact ⟨vs, ho, h⟩
theorem MachAt.handO (T : MachAt Z H A m) {i : Nat} {a : HA} (h : A.hs[i]? = some a) : ∃ sv, H a.h = some (.ins Z.H a.dx (hf a sv (m.hd i))) ∧ SeenAt H sv (m.hd i).seen := by
  obtain ⟨o, ho, b, sv, hb, rfl, hs⟩ := T.at_ (.hand i) a.h (by simp [MA.at, h])
  rw [h] at hb
  cases hb
  exact ⟨sv, ho, hs⟩
theorem MachAt.saidL (T : MachAt Z H A m) {i : Nat} {a : HA} (h : A.hs[i]? = some a) : H a.said = some (.lst ((m.hd i).said.map ansV)) := by
  obtain ⟨o, ho, rfl⟩ := T.at_ (.said i) a.said (by simp [MA.at, h])
  exact ho
theorem MachAt.progL (T : MachAt Z H A m) {i : Nat} {a : HA} (h : A.hs[i]? = some a) : ∃ vs, H a.prog = some (.lst vs) ∧ All2 (DeedAt H) vs (m.prog i) := by
  obtain ⟨o, ho, vs, rfl, h⟩ := T.at_ (.prog i) a.prog (by simp [MA.at, h])
  exact ⟨vs, ho, h⟩
theorem MachAt.hand_of (T : MachAt Z H A m) {i : Nat} (h : i < m.hands.length) : ∃ a, A.hs[i]? = some a := ⟨A.hs[i]'(by rw [T.hs]; exact h), List.getElem?_eq_getElem _⟩
theorem handV {i : Nat} {a : HA} (h : A.hs[i]? = some a) : atI (A.hs.map fun a => V.ref a.h) (i : Int) = some (.ref a.h) := atI_nat (by rw [List.getElem?_map, h] <;> rfl)

/-! ### writing them -/
/-- the machine's own ints and bool -/
theorem MachAt.setM (T : MachAt Z H A m) (t k : Nat) (b : Bool) :
    MachAt Z (upd H A.p (.ins Z.M A.dx (mf A { m with top := t, count := k, strayed := b }))) A { m with top := t, count := k, strayed := b } ∧ Chg A.owns H (upd H A.p (.ins Z.M A.dx (mf A { m with top := t, count := k, strayed := b }))) :=
  T.put (r := .m) rfl (fun _ _ => rfl) (fun r' u ne h => by cases r' <;> first | exact absurd rfl ne | exact h) rfl rfl rfl
theorem MachAt.setWorths (T : MachAt Z H A m) (w : List Int) : MachAt Z (upd H A.worths (.lst (w.map V.int))) A { m with worths := w } ∧ Chg A.owns H (upd H A.worths (.lst (w.map V.int))) :=
  T.put (r := .worths) rfl (fun _ _ => rfl) (fun r' u ne h => by cases r' <;> first | exact absurd rfl ne | exact h) rfl rfl rfl
theorem MachAt.setLinks (T : MachAt Z H A m) (w : List Nat) : MachAt Z (upd H A.links (.lst (w.map natV))) A { m with links := w } ∧ Chg A.owns H (upd H A.links (.lst (w.map natV))) :=
  T.put (r := .links) rfl (fun _ _ => rfl) (fun r' u ne h => by cases r' <;> first | exact absurd rfl ne | exact h) rfl rfl rfl
theorem MachAt.setFreed (T : MachAt Z H A m) (w : List Nat) : MachAt Z (upd H A.freed (.lst (w.map natV))) A { m with freed := w } ∧ Chg A.owns H (upd H A.freed (.lst (w.map natV))) :=
  T.put (r := .freed) rfl (fun _ _ => rfl) (fun r' u ne h => by cases r' <;> first | exact absurd rfl ne | exact h) rfl rfl rfl
theorem MachAt.addEnd (T : MachAt Z H A m) {vs : List V} {v : V} {p : Nat × Nat} (hv : All2 (PairAt H) vs m.ends) (hp : PairAt H v p) :
    MachAt Z (upd H A.ends (.lst (vs ++ [v]))) A { m with ends := m.ends ++ [p] } ∧ Chg A.owns H (upd H A.ends (.lst (vs ++ [v]))) :=
  T.put (r := .ends) rfl (fun _ t => ⟨_, rfl, (hv.mono fun _ _ => PairAt.mono t).snoc (hp.mono t)⟩) (fun r' u ne h => by cases r' <;> first | exact absurd rfl ne | exact h) rfl rfl rfl
/-- a hand's attributes -/
theorem MachAt.setHand (T : MachAt Z H A m) {i : Nat} {a : HA} {sv : V} {x : Hd} (h : A.hs[i]? = some a) (hs : SeenAt H sv x.seen) (he : x.said = (m.hd i).said) :
    MachAt Z (upd H a.h (.ins Z.H a.dx (hf a sv x))) A (m.setH i x) ∧ Chg A.owns H (upd H a.h (.ins Z.H a.dx (hf a sv x))) := by
  have hl : i < m.hands.length := by
    rw [← T.hs]
    exact (List.getElem?_eq_some_iff.mp h).1
  refine T.put (r := .hand i) (by simp [MA.at, h]) (fun _ t => ⟨a, sv, h, by rw [M.setH_hd hl], by rw [M.setH_hd hl]; exact hs.mono t⟩) (fun r' u ne hc => ?_) rfl M.setH_len rfl
  cases r' with
  | hand j =>
    have e : j ≠ i := fun e => ne (by rw [e])
    show ∃ a sv, _
    rw [M.setH_ne hl e]
    exact hc
  | said j =>
    show u = _
    by_cases e : j = i
    · subst e
      rw [M.setH_hd hl, he]
      exact hc
    · rw [M.setH_ne hl e]
      exact hc
  | _ => exact hc
/-- what a hand has said -/
theorem MachAt.setSaid (T : MachAt Z H A m) {i : Nat} {a : HA} (h : A.hs[i]? = some a) (w : List Ans) :
    MachAt Z (upd H a.said (.lst (w.map ansV))) A (m.setH i { m.hd i with said := w }) ∧ Chg A.owns H (upd H a.said (.lst (w.map ansV))) := by
  have hl : i < m.hands.length := by
    rw [← T.hs]
    exact (List.getElem?_eq_some_iff.mp h).1
  refine T.put (r := .said i) (by simp [MA.at, h]) (fun _ t => by show _ = _; rw [M.setH_hd hl]) (fun r' u ne hc => ?_) rfl M.setH_len rfl
  cases r' with
  | hand j =>
    by_cases e : j = i
    · subst e
      obtain ⟨a', sv, h1, h2, h3⟩ := hc
      exact ⟨a', sv, h1, by rw [M.setH_hd hl]; exact h2, by rw [M.setH_hd hl]; exact h3⟩
    · show ∃ a sv, _
      rw [M.setH_ne hl e]
      exact hc
  | said j =>
    have e : j ≠ i := fun e => ne (by rw [e])
    show u = _
    rw [M.setH_ne hl e]
    exact hc
  | _ => exact hc
end
end SS

set_option Elab.async false
set_option linter.all false
set_option maxRecDepth 100000
set_option maxHeartbeats 4000000
namespace SS
open PySem L2

/-- what the classes are -/
structure ZOk (Z : Cs) : Prop where
  clM : Cls Z.K Z.M
  clH : Cls Z.K Z.H
  m_rule : NoAttr Z.K Z.M "rule"
  m_worths : NoAttr Z.K Z.M "worths"
  m_links : NoAttr Z.K Z.M "links"
  m_top : NoAttr Z.K Z.M "top"
  m_count : NoAttr Z.K Z.M "count"
  m_freed : NoAttr Z.K Z.M "freed"
  m_hands : NoAttr Z.K Z.M "hands"
  m_ends : NoAttr Z.K Z.M "ends"
  m_strayed : NoAttr Z.K Z.M "strayed"
  h_program : NoAttr Z.K Z.H "program"
  h_at : NoAttr Z.K Z.H "at"
  h_cell : NoAttr Z.K Z.H "cell"
  h_seen : NoAttr Z.K Z.H "seen"
  h_follow : NoAttr Z.K Z.H "follow"
  h_mark : NoAttr Z.K Z.H "mark"
  h_looked : NoAttr Z.K Z.H "looked"
  h_said : NoAttr Z.K Z.H "said"

abbrev HandO (Z : Cs) (H : Hp) (a : HA) (sv : V) (x : Hd) : Prop := H a.h = some (.ins Z.H a.dx (hf a sv x))

section
variable {Z : Cs} {H : Hp} {A : MA} {m : M} {s : L2.St} {ta tb te : TE} {a : HA} {sv : V} {x : Hd} {i : Nat} {v : V}
/-! ### fields read -/
theorem em_rule (k : ZOk Z) (T : MachAt Z H A m) (e : Ev ta s H (.ref A.p)) : Ev (tFld Z.K ta "rule") s H (.ref A.rule) := ev_fld e T.obj k.clM k.m_rule (mf_rule _ _)
theorem em_worths (k : ZOk Z) (T : MachAt Z H A m) (e : Ev ta s H (.ref A.p)) : Ev (tFld Z.K ta "worths") s H (.ref A.worths) := ev_fld e T.obj k.clM k.m_worths (mf_worths _ _)
theorem em_links (k : ZOk Z) (T : MachAt Z H A m) (e : Ev ta s H (.ref A.p)) : Ev (tFld Z.K ta "links") s H (.ref A.links) := ev_fld e T.obj k.clM k.m_links (mf_links _ _)
theorem em_top (k : ZOk Z) (T : MachAt Z H A m) (e : Ev ta s H (.ref A.p)) : Ev (tFld Z.K ta "top") s H (.int m.top) := ev_fld e T.obj k.clM k.m_top (mf_top _ _)
theorem em_count (k : ZOk Z) (T : MachAt Z H A m) (e : Ev ta s H (.ref A.p)) : Ev (tFld Z.K ta "count") s H (.int m.count) := ev_fld e T.obj k.clM k.m_count (mf_count _ _)
theorem em_freed (k : ZOk Z) (T : MachAt Z H A m) (e : Ev ta s H (.ref A.p)) : Ev (tFld Z.K ta "freed") s H (.ref A.freed) := ev_fld e T.obj k.clM k.m_freed (mf_freed _ _)
theorem em_hands (k : ZOk Z) (T : MachAt Z H A m) (e : Ev ta s H (.ref A.p)) : Ev (tFld Z.K ta "hands") s H (.ref A.handsL) := ev_fld e T.obj k.clM k.m_hands (mf_hands _ _)
theorem em_ends (k : ZOk Z) (T : MachAt Z H A m) (e : Ev ta s H (.ref A.p)) : Ev (tFld Z.K ta "ends") s H (.ref A.ends) := ev_fld e T.obj k.clM k.m_ends (mf_ends _ _)
theorem em_strayed (k : ZOk Z) (T : MachAt Z H A m) (e : Ev ta s H (.ref A.p)) : Ev (tFld Z.K ta "strayed") s H (.bl m.strayed) := ev_fld e T.obj k.clM k.m_strayed (mf_strayed _ _)
theorem eh_program (k : ZOk Z) (O : HandO Z H a sv x) (e : Ev ta s H (.ref a.h)) : Ev (tFld Z.K ta "program") s H (.ref a.prog) := ev_fld e O k.clH k.h_program (hf_program _ _ _)
theorem eh_at (k : ZOk Z) (O : HandO Z H a sv x) (e : Ev ta s H (.ref a.h)) : Ev (tFld Z.K ta "at") s H (.int x.at_) := ev_fld e O k.clH k.h_at (hf_at _ _ _)
theorem eh_cell (k : ZOk Z) (O : HandO Z H a sv x) (e : Ev ta s H (.ref a.h)) : Ev (tFld Z.K ta "cell") s H (.int x.cell) := ev_fld e O k.clH k.h_cell (hf_cell _ _ _)
theorem eh_seen (k : ZOk Z) (O : HandO Z H a sv x) (e : Ev ta s H (.ref a.h)) : Ev (tFld Z.K ta "seen") s H sv := ev_fld e O k.clH k.h_seen (hf_seen _ _ _)
theorem eh_follow (k : ZOk Z) (O : HandO Z H a sv x) (e : Ev ta s H (.ref a.h)) : Ev (tFld Z.K ta "follow") s H (optV x.follow) := ev_fld e O k.clH k.h_follow (hf_follow _ _ _)
theorem eh_mark (k : ZOk Z) (O : HandO Z H a sv x) (e : Ev ta s H (.ref a.h)) : Ev (tFld Z.K ta "mark") s H (.int x.mark) := ev_fld e O k.clH k.h_mark (hf_mark _ _ _)
theorem eh_looked (k : ZOk Z) (O : HandO Z H a sv x) (e : Ev ta s H (.ref a.h)) : Ev (tFld Z.K ta "looked") s H (.bl x.looked) := ev_fld e O k.clH k.h_looked (hf_looked _ _ _)
theorem eh_said (k : ZOk Z) (O : HandO Z H a sv x) (e : Ev ta s H (.ref a.h)) : Ev (tFld Z.K ta "said") s H (.ref a.said) := ev_fld e O k.clH k.h_said (hf_said _ _ _)
/-- self.hands[hand] -/
theorem em_hand (k : ZOk Z) (T : MachAt Z H A m) (h : A.hs[i]? = some a) (e : Ev ta s H (.ref A.p)) (ei : Ev tb s H (.int i)) : Ev (tOp (rIxL Z.K) (tFld Z.K ta "hands") tb) s H (.ref a.h) :=
  ev_ixL (em_hands k T e) ei (SqL.of T.handsLL) (handV h)

/-! ### fields stored: the hand at i is x -/
variable {D : Ends}
theorem hf_len : (hf a sv x).length < 1000 := by show 8 < 1000; decide
theorem mf_len : (mf A m).length < 1000 := by show 9 < 1000; decide
theorem MachAt.len {m : M} (T : MachAt Z H A m) {i : Nat} (h : A.hs[i]? = some a) : i < m.hands.length := by
  rw [← T.hs]
  exact (List.getElem?_eq_some_iff.mp h).1
/-- any store into a hand's attributes but program, said -/
theorem sh_any {f : Str} (k : ZOk Z) (T : MachAt Z H A (m.setH i x)) (h : A.hs[i]? = some a) (O : HandO Z H a sv x) (nf : NoAttr Z.K Z.H f) {x' : Hd} {sv' : V} (e : putF f v (hf a sv x) = hf a sv' x')
    (hs : SeenAt H sv' x'.seen) (hd : x'.said = x.said) (hv : Ev te s H v) (ea : Ev ta s H (.ref a.h))
    (c : ∀ H', MachAt Z H' A (m.setH i x') → Chg A.owns H H' → HandO Z H' a sv' x' → D.nx s H') : sFld Z.K ta te f D s H := by
  refine s_fld hv ea O k.clH nf hf_len ?_
  rw [e]
  have hl : i < m.hands.length := by
    have := T.len h
    rw [M.setH_len] at this
    exact this
  obtain ⟨T', C⟩ := T.setHand (sv := sv') (x := x') h hs (by rw [M.setH_hd hl]; exact hd)
  rw [M.setH_setH] at T'
  exact c _ T' C upd_same
theorem sh_at {n : Nat} (k : ZOk Z) (T : MachAt Z H A (m.setH i x)) (h : A.hs[i]? = some a) (O : HandO Z H a sv x) (hs : SeenAt H sv x.seen) (hv : Ev te s H (.int n)) (ea : Ev ta s H (.ref a.h))
    (c : ∀ H', MachAt Z H' A (m.setH i { x with at_ := n }) → Chg A.owns H H' → HandO Z H' a sv { x with at_ := n } → D.nx s H') : sFld Z.K ta te "at" D s H := sh_any k T h O k.h_at (pf_at a sv x n) hs rfl hv ea c
theorem sh_cell {n : Nat} (k : ZOk Z) (T : MachAt Z H A (m.setH i x)) (h : A.hs[i]? = some a) (O : HandO Z H a sv x) (hs : SeenAt H sv x.seen) (hv : Ev te s H (.int n)) (ea : Ev ta s H (.ref a.h))
    (c : ∀ H', MachAt Z H' A (m.setH i { x with cell := n }) → Chg A.owns H H' → HandO Z H' a sv { x with cell := n } → D.nx s H') : sFld Z.K ta te "cell" D s H := sh_any k T h O k.h_cell (pf_cell a sv x n) hs rfl hv ea c
theorem pf_seenX (o : Option (Nat × Nat)) : putF "seen" v (hf a sv x) = hf a v { x with seen := o } := by rw [pf_seen]; rfl
theorem sh_seen {o : Option (Nat × Nat)} (k : ZOk Z) (T : MachAt Z H A (m.setH i x)) (h : A.hs[i]? = some a) (O : HandO Z H a sv x) (hs : SeenAt H v o) (hv : Ev te s H v) (ea : Ev ta s H (.ref a.h))
    (c : ∀ H', MachAt Z H' A (m.setH i { x with seen := o }) → Chg A.owns H H' → HandO Z H' a v { x with seen := o } → D.nx s H') : sFld Z.K ta te "seen" D s H := sh_any k T h O k.h_seen (pf_seenX o) hs rfl hv ea c
theorem sh_follow {o : Option Nat} (k : ZOk Z) (T : MachAt Z H A (m.setH i x)) (h : A.hs[i]? = some a) (O : HandO Z H a sv x) (hs : SeenAt H sv x.seen) (hv : Ev te s H (optV o)) (ea : Ev ta s H (.ref a.h))
    (c : ∀ H', MachAt Z H' A (m.setH i { x with follow := o }) → Chg A.owns H H' → HandO Z H' a sv { x with follow := o } → D.nx s H') : sFld Z.K ta te "follow" D s H := sh_any k T h O k.h_follow (pf_follow a sv x o) hs rfl hv ea c
theorem sh_mark {n : Nat} (k : ZOk Z) (T : MachAt Z H A (m.setH i x)) (h : A.hs[i]? = some a) (O : HandO Z H a sv x) (hs : SeenAt H sv x.seen) (hv : Ev te s H (.int n)) (ea : Ev ta s H (.ref a.h))
    (c : ∀ H', MachAt Z H' A (m.setH i { x with mark := n }) → Chg A.owns H H' → HandO Z H' a sv { x with mark := n } → D.nx s H') : sFld Z.K ta te "mark" D s H := sh_any k T h O k.h_mark (pf_mark a sv x n) hs rfl hv ea c
theorem sh_looked {b : Bool} (k : ZOk Z) (T : MachAt Z H A (m.setH i x)) (h : A.hs[i]? = some a) (O : HandO Z H a sv x) (hs : SeenAt H sv x.seen) (hv : Ev te s H (.bl b)) (ea : Ev ta s H (.ref a.h))
    (c : ∀ H', MachAt Z H' A (m.setH i { x with looked := b }) → Chg A.owns H H' → HandO Z H' a sv { x with looked := b } → D.nx s H') : sFld Z.K ta te "looked" D s H := sh_any k T h O k.h_looked (pf_looked a sv x b) hs rfl hv ea c
/-- one.said.append(answer) -/
theorem sh_said {w : Ans} (k : ZOk Z) (T : MachAt Z H A (m.setH i x)) (h : A.hs[i]? = some a) (O : HandO Z H a sv x) (hs : SeenAt H sv x.seen) (hz : x.said.length < 1000) (hv : Ev te s H (ansV w)) (ea : Ev ta s H (.ref a.h))
    (c : ∀ H', MachAt Z H' A (m.setH i { x with said := x.said ++ [w] }) → Chg A.owns H H' → HandO Z H' a sv { x with said := x.said ++ [w] } → D.nx s H') :
    tDrop (tBM Z.K "list" rAppend (tFld Z.K ta "said") (tCons te tNil)) D s H := by
  have hl : i < m.hands.length := by
    have := T.len h
    rw [M.setH_len] at this
    exact this
  have L := T.saidL h
  rw [M.setH_hd hl] at L
  refine s_app (eh_said k O ea) L hv (by rw [List.length_map]; exact Nat.lt_of_lt_of_le hz (by decide)) ?_
  obtain ⟨T', C⟩ := T.setSaid h (x.said ++ [w])
  rw [M.setH_hd hl, M.setH_setH] at T'
  rw [List.map_append] at T' C
  obtain ⟨sv2, O2, _⟩ := T'.handO h
  rw [M.setH_hd hl] at O2
  have e : sv2 = sv := by
    have hne : a.h ≠ a.said := ne_of O L (by intro z; cases z)
    have O' := C.keep
    have O3 : upd H a.said (.lst (x.said.map ansV ++ [ansV w])) a.h = some (.ins Z.H a.dx (hf a sv x)) := by rw [upd_ne hne]; exact O
    have O4 := O2.symm.trans O3
    have l1 := congrArg (fun o : Option HO => match o with | some (.ins _ _ fs) => fs.lookup ("seen" : Str) | _ => none) O4
    have l2 : some sv2 = some sv := l1
    exact Option.some.inj l2
  rw [e] at O2
  exact c _ T' C O2
/-! ### the machine's own -/
theorem MachAt.hO {m : M} (T : MachAt Z H A (m.setH i x)) (h : A.hs[i]? = some a) : ∃ sv, HandO Z H a sv x ∧ SeenAt H sv x.seen := by
  have hl : i < m.hands.length := by
    have := T.len h
    rw [M.setH_len] at this
    exact this
  have := T.handO h
  rw [M.setH_hd hl] at this
  exact this
theorem sm_any {f : Str} (k : ZOk Z) (T : MachAt Z H A m) (nf : NoAttr Z.K Z.M f) {t c : Nat} {b : Bool} (e : putF f v (mf A m) = mf A { m with top := t, count := c, strayed := b }) (hv : Ev te s H v) (ea : Ev ta s H (.ref A.p))
    (q : ∀ H', MachAt Z H' A { m with top := t, count := c, strayed := b } → Chg A.owns H H' → (∀ (j : Nat) (b : HA) (sv : V) (x : Hd), A.hs[j]? = some b → HandO Z H b sv x → HandO Z H' b sv x) → D.nx s H') : sFld Z.K ta te f D s H := by
  refine s_fld hv ea T.obj k.clM nf mf_len ?_
  rw [e]
  obtain ⟨T', C⟩ := T.setM t c b
  refine q _ T' C fun i a sv x h O => ?_
  have hne : a.h ≠ A.p := fun z => by
    have := T.sep (.hand i) .m a.h (by simp [MA.at, h]) (by rw [z]; rfl)
    cases this
  show upd _ _ _ _ = _
  rw [upd_ne hne]
  exact O
theorem sm_top {t : Nat} (k : ZOk Z) (T : MachAt Z H A m) (hv : Ev te s H (.int t)) (ea : Ev ta s H (.ref A.p))
    (q : ∀ H', MachAt Z H' A { m with top := t } → Chg A.owns H H' → (∀ (j : Nat) (b : HA) (sv : V) (x : Hd), A.hs[j]? = some b → HandO Z H b sv x → HandO Z H' b sv x) → D.nx s H') : sFld Z.K ta te "top" D s H :=
  sm_any (t := t) (c := m.count) (b := m.strayed) k T k.m_top (pf_top A m t) hv ea q
theorem sm_count {t : Nat} (k : ZOk Z) (T : MachAt Z H A m) (hv : Ev te s H (.int t)) (ea : Ev ta s H (.ref A.p))
    (q : ∀ H', MachAt Z H' A { m with count := t } → Chg A.owns H H' → (∀ (j : Nat) (b : HA) (sv : V) (x : Hd), A.hs[j]? = some b → HandO Z H b sv x → HandO Z H' b sv x) → D.nx s H') : sFld Z.K ta te "count" D s H :=
  sm_any (t := m.top) (c := t) (b := m.strayed) k T k.m_count (pf_count A m t) hv ea q
theorem sm_strayed {t : Bool} (k : ZOk Z) (T : MachAt Z H A m) (hv : Ev te s H (.bl t)) (ea : Ev ta s H (.ref A.p))
    (q : ∀ H', MachAt Z H' A { m with strayed := t } → Chg A.owns H H' → (∀ (j : Nat) (b : HA) (sv : V) (x : Hd), A.hs[j]? = some b → HandO Z H b sv x → HandO Z H' b sv x) → D.nx s H') : sFld Z.K ta te "strayed" D s H :=
  sm_any (t := m.top) (c := m.count) (b := t) k T k.m_strayed (pf_strayed A m t) hv ea q
end
end SS

set_option Elab.async false
set_option linter.all false
set_option maxRecDepth 100000
set_option maxHeartbeats 4000000
namespace SS
open PySem L2

/-! ### what a step tells -/
def tellVs : Tell → List V
  | .rests => [.str "rests"]
  | .takes c => [.str "takes", natV c]
  | .reads t => [.str "reads", natV t]
  | .ends a => [.str "ends", ansV a]
  | .links t => [.str "links", natV t]
  | .marks c => [.str "marks", natV c]
  | .looks b => [.str "looks", .bl b]
  | .follows n => [.str "follows", natV n]
  | .exchanges n => [.str "exchanges", natV n]
  | .misses => [.str "misses"]
def TellAt (H : Hp) (v : V) (t : Tell) : Prop := ∃ q, v = .ref q ∧ H q = some (.tup (tellVs t))

/-! ### promises -/
def ProgAt (H : Hp) (v : V) (ds : List Deed) : Prop := ∃ q us, v = .ref q ∧ H q = some (.lst us) ∧ All2 (DeedAt H) us ds
def ProgsAt (K : PySem.W.Frag) (H : Hp) (l : Addr) (ps : List (List Deed)) : Prop := ∃ us, SqL K H l us ∧ All2 (ProgAt H) us ps
def sp_need_values (Z : Cs) : Sp := fun vs H Q _ => ∃ (a : Addr) (ns : List Int), vs = [.ref a] ∧ SqL Z.K H a (ns.map V.int) ∧ ns.length ≤ 6 ∧ (∀ v ∈ ns, okVal v) ∧ Q .non H
def sp_is_deed (Z : Cs) : Sp := fun vs H Q _ => ∃ (v : V) (d : Deed), vs = [v] ∧ DeedAt H v d ∧ okDeed d ∧ Q (.bl true) H
def sp_need_deeds (Z : Cs) : Sp := fun vs H Q _ => ∃ (v : V) (h : Nat) (ds : List Deed), vs = [v, .int h] ∧ ProgAt H v ds ∧ ds.length ≤ 1000 ∧ (∀ d ∈ ds, okDeed d) ∧ Q .non H
def sp_need_programs (Z : Cs) : Sp := fun vs H Q _ => ∃ (l : Addr) (ps : List (List Deed)), vs = [.ref l] ∧ ProgsAt Z.K H l ps ∧ (1 ≤ ps.length ∧ ps.length ≤ 3) ∧ (∀ p ∈ ps, p.length ≤ 4) ∧ (∀ p ∈ ps, ∀ d ∈ p, okDeed d) ∧ Q .non H
def sp_need_rule (Z : Cs) : Sp := fun vs H Q _ => ∃ (a : Addr) (r : Rule) (many : Nat), vs = [.ref a, .int many] ∧ RuleAt H a r ∧ okRule many r ∧ ∀ H', Same H H' → Q .non H'
def sp_H_init (Z : Cs) : Sp := fun vs H Q _ => ∃ (p dx l : Addr) (us : List V) (ds : List Deed), vs = [.ref p, .ref l] ∧ H p = some (.ins Z.H dx []) ∧ H l = some (.lst us) ∧ All2 (DeedAt H) us ds ∧
  ∀ (a : HA) H', a.h = p → H a.prog = none → H a.said = none → a.prog ≠ a.said → HandO Z H' a .non {} → H' a.prog = some (.lst us) → H' a.said = some (.lst []) → (∀ b o, H b = some o → b ≠ p → H' b = some o) → Q .non H'
def sp_M_init (Z : Cs) : Sp := fun vs H Q _ => ∃ (p dx lv lp lr : Addr) (values : List Int) (ps : List (List Deed)) (r : Rule), vs = [.ref p, .ref lv, .ref lp, .ref lr] ∧ H p = some (.ins Z.M dx []) ∧
  SqL Z.K H lv (values.map V.int) ∧ ProgsAt Z.K H lp ps ∧ RuleAt H lr r ∧ okIn values ps r ∧
  ∀ (A : MA) H', A.p = p → (∀ a, A.owns a → a ≠ p → H a = none) → MachAt Z H' A (M.begin_ values ps r) → (∀ b o, H b = some o → b ≠ p → H' b = some o) → Q .non H'

def sp_M_need_hand (Z : Cs) : Sp := fun vs H Q _ => ∃ (A : MA) (m : M) (h : Nat) (a : HA), vs = [.ref A.p, .int h] ∧ MachAt Z H A m ∧ A.hs[h]? = some a ∧ Q (.ref a.h) H
def sp_M_rests (Z : Cs) : Sp := fun vs H Q _ => ∃ (A : MA) (m : M) (h : Nat) (a : HA), vs = [.ref A.p, .int h] ∧ MachAt Z H A m ∧ A.hs[h]? = some a ∧ Q (.bl (m.rests h)) H
def sp_M_marks (Z : Cs) : Sp := fun vs H Q _ => ∃ (A : MA) (m : M), vs = [.ref A.p] ∧ MachAt Z H A m ∧ m.hands.length ≤ 1000 ∧ ∀ l H', H l = none → Same H H' → H' l = some (.lst (m.marked.map natV)) → Q (.ref l) H'
def sp_M_taken (Z : Cs) : Sp := fun vs H Q _ => ∃ (A : MA) (m : M) (v : Int), vs = [.ref A.p, .int v] ∧ MachAt Z H A m ∧ m.hands.length ≤ 1000 ∧ m.worths.length < 1000 ∧ m.links.length < 1000 ∧ m.freed.length ≤ 1000 ∧ (∀ c ∈ m.freed, 1 ≤ c ∧ c ≤ m.worths.length) ∧
  ∀ H', MachAt Z H' A (m.taken v).2 → Chg A.owns H H' → Q (.int (m.taken v).1) H'
def sp_M_forget (Z : Cs) : Sp := fun vs H Q _ => ∃ (A : MA) (m : M) (h : Nat) (a : HA), vs = [.ref A.p, .int h] ∧ MachAt Z H A m ∧ A.hs[h]? = some a ∧
  ∀ H', MachAt Z H' A (m.setH h (m.hd h).forgot) → Chg A.owns H H' → Q .non H'
def sp_M_ended (Z : Cs) : Sp := fun vs H Q _ => ∃ (A : MA) (m : M) (h : Nat) (a : HA) (w : Ans), vs = [.ref A.p, .int h, ansV w] ∧ MachAt Z H A m ∧ A.hs[h]? = some a ∧ (m.hd h).said.length < 1000 ∧
  ∀ H' v, MachAt Z H' A (m.endedH h w) → Chg A.owns H H' → TellAt H' v (.ends w) → Q v H'
def sp_M_read (Z : Cs) : Sp := fun vs H Q _ => ∃ (A : MA) (m : M) (h : Nat) (a : HA) (d : Deed), vs = [.ref A.p, .int h] ∧ MachAt Z H A m ∧ A.hs[h]? = some a ∧ (m.prog h)[(m.hd h).at_]? = some d ∧ (m.hd h).said.length < 1000 ∧ m.ends.length < 1000 ∧
  ∀ H' v, MachAt Z H' A (m.read h d).2 → Chg A.owns H H' → TellAt H' v (m.read h d).1 → Q v H'
def sp_M_exchange (Z : Cs) : Sp := fun vs H Q _ => ∃ (A : MA) (m : M) (h c : Nat) (a : HA), vs = [.ref A.p, .int h, .int c] ∧ MachAt Z H A m ∧ A.hs[h]? = some a ∧ m.ends.length < 1000 ∧ okCount m ∧
  ∀ H', MachAt Z H' A (m.exch h c).2 → Chg A.owns H H' → Q (.bl (m.exch h c).1) H'
def sp_M_push (Z : Cs) : Sp := fun vs H Q _ => ∃ (A : MA) (m : M) (h t k : Nat) (a : HA), vs = [.ref A.p, .int h] ∧ MachAt Z H A m ∧ A.hs[h]? = some a ∧ (m.hd h).seen = some (t, k) ∧ (1 ≤ (m.hd h).cell ∧ (m.hd h).cell ≤ m.links.length) ∧
  (m.hd h).said.length < 1000 ∧ m.ends.length < 1000 ∧ okCount m ∧ ∀ H' v, MachAt Z H' A (m.push h t).2 → Chg A.owns H H' → TellAt H' v (m.push h t).1 → Q v H'
def sp_M_guard (Z : Cs) : Sp := fun vs H Q _ => ∃ (A : MA) (m : M) (h c : Nat) (a : HA), vs = [.ref A.p, .int h, .int c] ∧ MachAt Z H A m ∧ A.hs[h]? = some a ∧
  ∀ H' v, MachAt Z H' A (m.guard h c).2 → Chg A.owns H H' → TellAt H' v (m.guard h c).1 → Q v H'
def sp_M_pop (Z : Cs) : Sp := fun vs H Q _ => ∃ (A : MA) (m : M) (h t k : Nat) (a : HA), vs = [.ref A.p, .int h] ∧ MachAt Z H A m ∧ A.hs[h]? = some a ∧ (m.hd h).seen = some (t, k) ∧ (1 ≤ t ∧ t ≤ m.links.length) ∧ (m.hd h).cell ≤ m.worths.length ∧
  (m.hd h).said.length < 1000 ∧ m.ends.length < 1000 ∧ m.freed.length < 1000 ∧ okCount m ∧ ∀ H' v, MachAt Z H' A (m.pop h t).2 → Chg A.owns H H' → TellAt H' v (m.pop h t).1 → Q v H'
def sp_M_turn (Z : Cs) : Sp := fun vs H Q _ => ∃ (A : MA) (m : M) (h : Nat), vs = [.ref A.p, .int h] ∧ MachAt Z H A m ∧ Wf m ∧ h < m.hands.length ∧
  ∀ H' v, MachAt Z H' A (m.turn h).2 → Chg A.owns H H' → TellAt H' v (m.turn h).1 → (m.rests h = true → Same H H') → Q v H'

/-! ### what is told of the machine as it stands -/
def sp_M_is_done (Z : Cs) : Sp := fun vs H Q _ => ∃ (A : MA) (m : M), vs = [.ref A.p] ∧ MachAt Z H A m ∧ m.hands.length ≤ 1000 ∧ ∀ H', Same H H' → Q (.bl m.isDone) H'
def sp_M_is_stale (Z : Cs) : Sp := fun vs H Q _ => ∃ (A : MA) (m : M), vs = [.ref A.p] ∧ MachAt Z H A m ∧ Q (.bl m.strayed) H
def sp_M_answers (Z : Cs) : Sp := fun vs H Q _ => ∃ (A : MA) (m : M) (h : Nat) (a : HA), vs = [.ref A.p, .int h] ∧ MachAt Z H A m ∧ A.hs[h]? = some a ∧ ∀ l, H l = none → Q (.ref l) (upd H l (.lst ((m.hd h).said.map ansV)))
def sp_M_marked (Z : Cs) : Sp := fun vs H Q _ => ∃ (A : MA) (m : M) (h : Nat) (a : HA), vs = [.ref A.p, .int h] ∧ MachAt Z H A m ∧ A.hs[h]? = some a ∧ Q (.int (m.hd h).mark) H
def sp_M_order (Z : Cs) : Sp := fun vs H Q _ => ∃ (A : MA) (m : M), vs = [.ref A.p] ∧ MachAt Z H A m ∧ ∀ l us, H l = none → All2 (PairAt H) us m.ends → Q (.ref l) (upd H l (.lst us))
def sp_M_free (Z : Cs) : Sp := fun vs H Q _ => ∃ (A : MA) (m : M), vs = [.ref A.p] ∧ MachAt Z H A m ∧ ∀ l, H l = none → Q (.ref l) (upd H l (.lst (m.freed.map natV)))
def sp_M_top_now (Z : Cs) : Sp := fun vs H Q _ => ∃ (A : MA) (m : M), vs = [.ref A.p] ∧ MachAt Z H A m ∧ ∀ l, H l = none → Q (.ref l) (upd H l (.tup [natV m.top, natV m.count]))
def sp_M_nexts (Z : Cs) : Sp := fun vs H Q _ => ∃ (A : MA) (m : M), vs = [.ref A.p] ∧ MachAt Z H A m ∧ ∀ l, H l = none → Q (.ref l) (upd H l (.lst (m.links.map natV)))
def sp_M_pile (Z : Cs) : Sp := fun vs H Q _ => ∃ (A : MA) (m : M), vs = [.ref A.p] ∧ MachAt Z H A m ∧ PileOk m ∧ ∀ l H', H l = none → Same H H' → H' l = some (.lst (m.pile.map natV)) → Q (.ref l) H'
def sp_M_pile_values (Z : Cs) : Sp := fun vs H Q _ => ∃ (A : MA) (m : M), vs = [.ref A.p] ∧ MachAt Z H A m ∧ PileOk m ∧ ∀ l H', H l = none → Same H H' → H' l = some (.lst (m.pileValues.map V.int)) → Q (.ref l) H'

/-! ### readings (printed) -/
/-- need_values: 0 values, 1 at -/
def t_need_values (Z : Cs) : TS :=
  tSeq (tIfS (tTest (tOp rGtI (tCB (rLen1 Z.K) (tCons (tVar 0) tNil)) (tC (.int 6)))) ((tNever)) (tNext))
    ((tFor (iRng1 (tCons (tCB (rLen1 Z.K) (tCons (tVar 0) tNil)) tNil)) (gName 1) ((tIfS (tNot (tTest (tChain rLeI rLeI (tC (.int 0)) (tOp (rIxL Z.K) (tVar 0) (tVar 1)) (tC (.int 99))))) ((tNever)) (tNext)))))
/-- is_deed: 0 deed -/
def t_is_deed (Z : Cs) : TS :=
  tSeq (tIfS (tTest (tOp rEq (tCB (rLen1 Z.K) (tCons (tVar 0) tNil)) (tC (.int 0)))) ((tRet (tC (.bl false)))) (tNext))
    (tSeq (tIfS (tTest (tOp rEq (tOp (rIxT Z.K) (tVar 0) (tC (.int 0))) (tC (.str "pop")))) ((tRet (tOp rEq (tCB (rLen1 Z.K) (tCons (tVar 0) tNil)) (tC (.int 1))))) (tNext))
    ((tRet (tAndV (tOp rEq (tOp (rIxT Z.K) (tVar 0) (tC (.int 0))) (tC (.str "push"))) (tAndV (tOp rEq (tCB (rLen1 Z.K) (tCons (tVar 0) tNil)) (tC (.int 2))) (tChain rLeI rLeI (tC (.int 0)) (tOp (rIxT Z.K) (tVar 0) (tC (.int 1))) (tC (.int 99))))))))
/-- need_deeds: 0 deeds, 1 hand, 2 number -/
def t_need_deeds (Z : Cs) : TS :=
  (tFor (iRng1 (tCons (tCB (rLen1 Z.K) (tCons (tVar 0) tNil)) tNil)) (gName 2) ((tIfS (tNot (tB (tCall (sp_is_deed Z) [] E0 (tCons (tOp (rIxL Z.K) (tVar 0) (tVar 2)) tNil)))) ((tNever)) (tNext))))
/-- need_programs: 0 programs, 1 hand -/
def t_need_programs (Z : Cs) : TS :=
  tSeq (tIfS (tNot (tTest (tChain rLeI rLeI (tC (.int 1)) (tCB (rLen1 Z.K) (tCons (tVar 0) tNil)) (tC (.int 3))))) ((tNever)) (tNext))
    ((tFor (iRng1 (tCons (tCB (rLen1 Z.K) (tCons (tVar 0) tNil)) tNil)) (gName 1) (tSeq (tIfS (tTest (tOp rGtI (tCB (rLen1 Z.K) (tCons (tOp (rIxL Z.K) (tVar 0) (tVar 1)) tNil)) (tC (.int 4)))) ((tNever)) (tNext))
    ((tDrop (tCall (sp_need_deeds Z) [] E0 (tCons (tOp (rIxL Z.K) (tVar 0) (tVar 1)) (tCons (tVar 1) tNil))))))))
/-- need_rule: 0 rule, 1 many, 2 at -/
def t_need_rule (Z : Cs) : TS :=
  tSeq (tIfS (tTest (tOp (rEqD Z.K) (tVar 0) (tTup (tCons (tC (.str "keeps")) tNil)))) ((tRetN)) (tNext))
    (tSeq (tIfS ((tOr (tTest (tOp rNe (tCB (rLen1 Z.K) (tCons (tVar 0) tNil)) (tC (.int 2)))) (tTest (tOp (rIn Z.K true) (tOp (rIxT Z.K) (tVar 0) (tC (.int 0))) (tTup (tCons (tC (.str "counts")) (tCons (tC (.str "marks")) tNil))))))) ((tNever)) (tNext))
    ((tIfS (tTest (tOp rEq (tOp (rIxT Z.K) (tVar 0) (tC (.int 0))) (tC (.str "counts")))) ((tIfS (tNot (tTest (tChain rLeI rLeI (tC (.int 1)) (tOp (rIxT Z.K) (tVar 0) (tC (.int 1))) (tC (.int 15))))) ((tNever)) (tNext))) ((tFor (iRng1 (tCons (tCB (rLen1 Z.K) (tCons (tOp (rIxT Z.K) (tVar 0) (tC (.int 1))) tNil)) tNil)) (gName 2) ((tIfS ((tOr (tNot (tTest (tChain rLeI rLtI (tC (.int 0)) (tOp (rIxT Z.K) (tOp (rIxT Z.K) (tVar 0) (tC (.int 1))) (tVar 2)) (tVar 1)))) ((tAnd (tTest (tOp rGtI (tVar 2) (tC (.int 0)))) (tTest (tOp rLeI (tOp (rIxT Z.K) (tOp (rIxT Z.K) (tVar 0) (tC (.int 1))) (tVar 2)) (tOp (rIxT Z.K) (tOp (rIxT Z.K) (tVar 0) (tC (.int 1))) (tOp rSubI (tVar 2) (tC (.int 1)))))))))) ((tNever)) (tNext))))))))
/-- Hand.__init__: 0 self, 1 program -/
def t_H_init (Z : Cs) : TS :=
  tSeq (sFld Z.K (tVar 0) (tCB (rListOf Z.K) (tCons (tVar 1) tNil)) "program")
    (tSeq (sFld Z.K (tVar 0) (tC (.int 0)) "at")
    (tSeq (sFld Z.K (tVar 0) (tC (.int 0)) "cell")
    (tSeq (sFld Z.K (tVar 0) (tC .non) "seen")
    (tSeq (sFld Z.K (tVar 0) (tC .non) "follow")
    (tSeq (sFld Z.K (tVar 0) (tC (.int 0)) "mark")
    (tSeq (sFld Z.K (tVar 0) (tC (.bl false)) "looked")
    ((sFld Z.K (tVar 0) (tLst tNil) "said"))))))))
/-- Machine.__init__: 0 self, 1 values, 2 programs, 3 rule, 4 program -/
def t_M_init (Z : Cs) : TS :=
  tSeq (tDrop (tCall (sp_need_values Z) [] E0 (tCons (tVar 1) tNil)))
    (tSeq (tDrop (tCall (sp_need_programs Z) [] E0 (tCons (tVar 2) tNil)))
    (tSeq (tDrop (tCall (sp_need_rule Z) [] E0 (tCons (tVar 3) (tCons (tCB (rLen1 Z.K) (tCons (tVar 2) tNil)) tNil))))
    (tSeq (sFld Z.K (tVar 0) (tVar 3) "rule")
    (tSeq (sFld Z.K (tVar 0) (tCB (rListOf Z.K) (tCons (tVar 1) tNil)) "worths")
    (tSeq (sFld Z.K (tVar 0) (tLstRg (tRg1 (tCB (rLen1 Z.K) (tCons (tVar 1) tNil)))) "links")
    (tSeq (sFld Z.K (tVar 0) (tCB (rLen1 Z.K) (tCons (tVar 1) tNil)) "top")
    (tSeq (sFld Z.K (tVar 0) (tC (.int 0)) "count")
    (tSeq (sFld Z.K (tVar 0) (tLst tNil) "freed")
    (tSeq (sFld Z.K (tVar 0) (tLc (iList Z.K (tVar 2)) (gName 4) tYes (tMake Z.H (sp_H_init Z) [] E0 (tCons (tVar 4) tNil)) [4]) "hands")
    (tSeq (sFld Z.K (tVar 0) (tLst tNil) "ends")
    ((sFld Z.K (tVar 0) (tC (.bl false)) "strayed"))))))))))))
/-- Machine.need_hand: 0 self, 1 hand -/
def t_M_need_hand (Z : Cs) : TS :=
  tSeq (tIfS (tNot (tTest (tChain rLeI rLtI (tC (.int 0)) (tVar 1) (tCB (rLen1 Z.K) (tCons (tFld Z.K (tVar 0) "hands") tNil))))) ((tNever)) (tNext))
    ((tRet (tOp (rIxL Z.K) (tFld Z.K (tVar 0) "hands") (tVar 1))))
/-- Machine.rests: 0 self, 1 hand -/
def t_M_rests (Z : Cs) : TS :=
  (tRet (tOp rEq (tFld Z.K (tOp (rIxL Z.K) (tFld Z.K (tVar 0) "hands") (tVar 1)) "at") (tCB (rLen1 Z.K) (tCons (tFld Z.K (tOp (rIxL Z.K) (tFld Z.K (tVar 0) "hands") (tVar 1)) "program") tNil))))
/-- Machine.is_done: 0 self, 1 hand -/
def t_M_is_done (Z : Cs) : TS :=
  (tRet (tOp (rEqD Z.K) (tLc (iRng1 (tCons (tCB (rLen1 Z.K) (tCons (tFld Z.K (tVar 0) "hands") tNil)) tNil)) (gName 1) (tNot (tB (tMeth Z.M "rests" (sp_M_rests Z) [] E0 (tVar 0) (tCons (tVar 1) tNil)))) (tVar 1) [1]) (tLst tNil)))
/-- Machine.is_stale: 0 self -/
def t_M_is_stale (Z : Cs) : TS :=
  (tRet (tFld Z.K (tVar 0) "strayed"))
/-- Machine.answers: 0 self, 1 hand -/
def t_M_answers (Z : Cs) : TS :=
  (tRet (tCB (rListOf Z.K) (tCons (tFld Z.K (tMeth Z.M "need_hand" (sp_M_need_hand Z) [] E0 (tVar 0) (tCons (tVar 1) tNil)) "said") tNil)))
/-- Machine.marked: 0 self, 1 hand -/
def t_M_marked (Z : Cs) : TS :=
  (tRet (tFld Z.K (tMeth Z.M "need_hand" (sp_M_need_hand Z) [] E0 (tVar 0) (tCons (tVar 1) tNil)) "mark"))
/-- Machine.order: 0 self -/
def t_M_order (Z : Cs) : TS :=
  (tRet (tCB (rListOf Z.K) (tCons (tFld Z.K (tVar 0) "ends") tNil)))
/-- Machine.free: 0 self -/
def t_M_free (Z : Cs) : TS :=
  (tRet (tCB (rListOf Z.K) (tCons (tFld Z.K (tVar 0) "freed") tNil)))
/-- Machine.top_now: 0 self -/
def t_M_top_now (Z : Cs) : TS :=
  (tRet (tTup (tCons (tFld Z.K (tVar 0) "top") (tCons (tFld Z.K (tVar 0) "count") tNil))))
/-- Machine.nexts: 0 self -/
def t_M_nexts (Z : Cs) : TS :=
  (tRet (tCB (rListOf Z.K) (tCons (tFld Z.K (tVar 0) "links") tNil)))
/-- Machine.pile: 0 self, 1 found, 2 cell -/
def t_M_pile (Z : Cs) : TS :=
  tSeq (tAsg (tLst tNil) (gName 1))
    (tSeq (tAsg (tFld Z.K (tVar 0) "top") (gName 2))
    (tSeq (tWhile ((tAnd (tTest (tOp rNe (tVar 2) (tC (.int 0)))) (tTest (tOp (rIn Z.K true) (tVar 2) (tVar 1))))) (tSeq (tDrop (tBM Z.K "list" rAppend (tVar 1) (tCons (tVar 2) tNil)))
    ((tAsg (tOp (rIxL Z.K) (tFld Z.K (tVar 0) "links") (tOp rSubI (tVar 2) (tC (.int 1)))) (gName 2)))))
    ((tRet (tVar 1)))))
/-- Machine.pile_values: 0 self, 1 cell -/
def t_M_pile_values (Z : Cs) : TS :=
  (tRet (tLc (iList Z.K (tMeth Z.M "pile" (sp_M_pile Z) [] E0 (tVar 0) tNil)) (gName 1) tYes (tOp (rIxL Z.K) (tFld Z.K (tVar 0) "worths") (tOp rSubI (tVar 1) (tC (.int 1)))) [1]))
/-- Machine.marks: 0 self, 1 hand -/
def t_M_marks (Z : Cs) : TS :=
  (tRet (tLc (iList Z.K (tFld Z.K (tVar 0) "hands")) (gName 1) (tTest (tOp rNe (tFld Z.K (tVar 1) "mark") (tC (.int 0)))) (tFld Z.K (tVar 1) "mark") [1]))
/-- Machine.taken: 0 self, 1 value, 2 cell -/
def t_M_taken (Z : Cs) : TS :=
  tSeq (tFor (iList Z.K (tCB (rListOf Z.K) (tCons (tFld Z.K (tVar 0) "freed") tNil))) (gName 2) ((tIfS ((tAnd (tTest (tOp rNe (tOp (rIxT Z.K) (tFld Z.K (tVar 0) "rule") (tC (.int 0))) (tC (.str "keeps")))) (tTest (tOp (rIn Z.K true) (tVar 2) (tMeth Z.M "marks" (sp_M_marks Z) [] E0 (tVar 0) tNil))))) (tSeq (tDrop (tBM Z.K "list" rRemI (tFld Z.K (tVar 0) "freed") (tCons (tVar 2) tNil)))
    (tSeq (tAsg (tVar 1) (gSub (tFld Z.K (tVar 0) "worths") (tOp rSubI (tVar 2) (tC (.int 1))) rSetL))
    ((tRet (tVar 2))))) (tNext))))
    (tSeq (tDrop (tBM Z.K "list" rAppend (tFld Z.K (tVar 0) "worths") (tCons (tVar 1) tNil)))
    (tSeq (tDrop (tBM Z.K "list" rAppend (tFld Z.K (tVar 0) "links") (tCons (tC (.int 0)) tNil)))
    ((tRet (tCB (rLen1 Z.K) (tCons (tFld Z.K (tVar 0) "worths") tNil))))))
/-- Machine.turn: 0 self, 1 hand, 2 one, 3 deed -/
def t_M_turn (Z : Cs) : TS :=
  tSeq (tAsg (tMeth Z.M "need_hand" (sp_M_need_hand Z) [] E0 (tVar 0) (tCons (tVar 1) tNil)) (gName 2))
    (tSeq (tIfS (tB (tMeth Z.M "rests" (sp_M_rests Z) [] E0 (tVar 0) (tCons (tVar 1) tNil))) ((tRet (tTup (tCons (tC (.str "rests")) tNil)))) (tNext))
    (tSeq (tAsg (tOp (rIxL Z.K) (tFld Z.K (tVar 2) "program") (tFld Z.K (tVar 2) "at")) (gName 3))
    (tSeq (tIfS ((tAnd (tTest (tOp rEq (tOp (rIxT Z.K) (tVar 3) (tC (.int 0))) (tC (.str "push")))) (tTest (tOp rEq (tFld Z.K (tVar 2) "cell") (tC (.int 0)))))) (tSeq (sFld Z.K (tVar 2) (tMeth Z.M "taken" (sp_M_taken Z) [] E0 (tVar 0) (tCons (tOp (rIxT Z.K) (tVar 3) (tC (.int 1))) tNil)) "cell")
    ((tRet (tTup (tCons (tC (.str "takes")) (tCons (tFld Z.K (tVar 2) "cell") tNil)))))) (tNext))
    (tSeq (tIfS (tTest (tOp rIsN (tFld Z.K (tVar 2) "seen") (tC .non))) ((tRet (tMeth Z.M "read" (sp_M_read Z) [] E0 (tVar 0) (tCons (tVar 1) tNil)))) (tNext))
    (tSeq (tIfS (tTest (tOp rEq (tOp (rIxT Z.K) (tVar 3) (tC (.int 0))) (tC (.str "push")))) ((tRet (tMeth Z.M "push" (sp_M_push Z) [] E0 (tVar 0) (tCons (tVar 1) tNil)))) (tNext))
    ((tRet (tMeth Z.M "pop" (sp_M_pop Z) [] E0 (tVar 0) (tCons (tVar 1) tNil)))))))))
/-- Machine.read: 0 self, 1 hand, 2 one -/
def t_M_read (Z : Cs) : TS :=
  tSeq (tAsg (tOp (rIxL Z.K) (tFld Z.K (tVar 0) "hands") (tVar 1)) (gName 2))
    (tSeq (tIfS ((tAnd (tTest (tOp rEq (tFld Z.K (tVar 0) "top") (tC (.int 0)))) (tTest (tOp rEq (tOp (rIxT Z.K) (tOp (rIxL Z.K) (tFld Z.K (tVar 2) "program") (tFld Z.K (tVar 2) "at")) (tC (.int 0))) (tC (.str "pop")))))) (tSeq (tDrop (tBM Z.K "list" rAppend (tFld Z.K (tVar 0) "ends") (tCons (tTup (tCons (tVar 1) (tCons (tFld Z.K (tVar 2) "at") tNil))) tNil)))
    ((tRet (tMeth Z.M "ended" (sp_M_ended Z) [] E0 (tVar 0) (tCons (tVar 1) (tCons (tC .non) tNil)))))) (tNext))
    (tSeq (sFld Z.K (tVar 2) (tTup (tCons (tFld Z.K (tVar 0) "top") (tCons (tFld Z.K (tVar 0) "count") tNil))) "seen")
    ((tRet (tTup (tCons (tC (.str "reads")) (tCons (tFld Z.K (tVar 0) "top") tNil)))))))
/-- Machine.ended: 0 self, 1 hand, 2 answer, 3 one -/
def t_M_ended (Z : Cs) : TS :=
  tSeq (tAsg (tOp (rIxL Z.K) (tFld Z.K (tVar 0) "hands") (tVar 1)) (gName 3))
    (tSeq (tDrop (tBM Z.K "list" rAppend (tFld Z.K (tVar 3) "said") (tCons (tVar 2) tNil)))
    (tSeq (sFld Z.K (tVar 3) (tOp rAddI (tFld Z.K (tVar 3) "at") (tC (.int 1))) "at")
    (tSeq (tDrop (tMeth Z.M "forget" (sp_M_forget Z) [] E0 (tVar 0) (tCons (tVar 1) tNil)))
    (tSeq (sFld Z.K (tVar 3) (tC (.int 0)) "cell")
    (tSeq (sFld Z.K (tVar 3) (tC (.int 0)) "mark")
    ((tRet (tTup (tCons (tC (.str "ends")) (tCons (tVar 2) tNil))))))))))
/-- Machine.forget: 0 self, 1 hand, 2 one -/
def t_M_forget (Z : Cs) : TS :=
  tSeq (tAsg (tOp (rIxL Z.K) (tFld Z.K (tVar 0) "hands") (tVar 1)) (gName 2))
    (tSeq (sFld Z.K (tVar 2) (tC .non) "seen")
    (tSeq (sFld Z.K (tVar 2) (tC .non) "follow")
    ((sFld Z.K (tVar 2) (tC (.bl false)) "looked"))))
/-- Machine.exchange: 0 self, 1 hand, 2 cell -/
def t_M_exchange (Z : Cs) : TS :=
  tSeq (tIfS (tTest (tOp (rNeD Z.K) (tTup (tCons (tFld Z.K (tVar 0) "top") (tCons (tFld Z.K (tVar 0) "count") tNil))) (tFld Z.K (tOp (rIxL Z.K) (tFld Z.K (tVar 0) "hands") (tVar 1)) "seen"))) (tSeq (tDrop (tMeth Z.M "forget" (sp_M_forget Z) [] E0 (tVar 0) (tCons (tVar 1) tNil)))
    ((tRet (tC (.bl false))))) (tNext))
    (tSeq (sFld Z.K (tVar 0) (tVar 2) "top")
    (tSeq (tIfS (tTest (tOp rEq (tOp (rIxT Z.K) (tFld Z.K (tVar 0) "rule") (tC (.int 0))) (tC (.str "counts")))) ((sFld Z.K (tVar 0) (tOp rModI (tOp rAddI (tFld Z.K (tVar 0) "count") (tC (.int 1))) (tOp (rIxT Z.K) (tFld Z.K (tVar 0) "rule") (tC (.int 1)))) "count")) (tNext))
    (tSeq (tDrop (tBM Z.K "list" rAppend (tFld Z.K (tVar 0) "ends") (tCons (tTup (tCons (tVar 1) (tCons (tFld Z.K (tOp (rIxL Z.K) (tFld Z.K (tVar 0) "hands") (tVar 1)) "at") tNil))) tNil)))
    ((tRet (tC (.bl true)))))))
/-- Machine.push: 0 self, 1 hand, 2 one -/
def t_M_push (Z : Cs) : TS :=
  tSeq (tAsg (tOp (rIxL Z.K) (tFld Z.K (tVar 0) "hands") (tVar 1)) (gName 2))
    (tSeq (tIfS (tTest (tOp rIsN (tFld Z.K (tVar 2) "follow") (tC .non))) (tSeq (sFld Z.K (tVar 2) (tOp (rIxT Z.K) (tFld Z.K (tVar 2) "seen") (tC (.int 0))) "follow")
    (tSeq (tAsg (tFld Z.K (tVar 2) "follow") (gSub (tFld Z.K (tVar 0) "links") (tOp rSubI (tFld Z.K (tVar 2) "cell") (tC (.int 1))) rSetL))
    ((tRet (tTup (tCons (tC (.str "links")) (tCons (tFld Z.K (tVar 2) "follow") tNil))))))) (tNext))
    (tSeq (tIfS (tNot (tB (tMeth Z.M "exchange" (sp_M_exchange Z) [] E0 (tVar 0) (tCons (tVar 1) (tCons (tFld Z.K (tVar 2) "cell") tNil))))) ((tRet (tTup (tCons (tC (.str "misses")) tNil)))) (tNext))
    ((tRet (tMeth Z.M "ended" (sp_M_ended Z) [] E0 (tVar 0) (tCons (tVar 1) (tCons (tC (.str "done")) tNil)))))))
/-- Machine.pop: 0 self, 1 hand, 2 one, 3 cell, 4 follow -/
def t_M_pop (Z : Cs) : TS :=
  tSeq (tAsg (tOp (rIxL Z.K) (tFld Z.K (tVar 0) "hands") (tVar 1)) (gName 2))
    (tSeq (tIfS (tTest (tOp rNe (tFld Z.K (tVar 2) "cell") (tC (.int 0)))) (tSeq (tDrop (tBM Z.K "list" rAppend (tFld Z.K (tVar 0) "freed") (tCons (tFld Z.K (tVar 2) "cell") tNil)))
    ((tRet (tMeth Z.M "ended" (sp_M_ended Z) [] E0 (tVar 0) (tCons (tVar 1) (tCons (tOp (rIxL Z.K) (tFld Z.K (tVar 0) "worths") (tOp rSubI (tFld Z.K (tVar 2) "cell") (tC (.int 1)))) tNil)))))) (tNext))
    (tSeq (tAsg (tOp (rIxT Z.K) (tFld Z.K (tVar 2) "seen") (tC (.int 0))) (gName 3))
    (tSeq (tIfS ((tAnd (tTest (tOp rEq (tOp (rIxT Z.K) (tFld Z.K (tVar 0) "rule") (tC (.int 0))) (tC (.str "marks")))) (tAnd (tTest (tOp (rIn Z.K false) (tVar 1) (tOp (rIxT Z.K) (tFld Z.K (tVar 0) "rule") (tC (.int 1))))) (tNot (tB (tFld Z.K (tVar 2) "looked")))))) ((tRet (tMeth Z.M "guard" (sp_M_guard Z) [] E0 (tVar 0) (tCons (tVar 1) (tCons (tVar 3) tNil))))) (tNext))
    (tSeq (tIfS (tTest (tOp rIsN (tFld Z.K (tVar 2) "follow") (tC .non))) (tSeq (sFld Z.K (tVar 2) (tOp (rIxL Z.K) (tFld Z.K (tVar 0) "links") (tOp rSubI (tVar 3) (tC (.int 1)))) "follow")
    ((tRet (tTup (tCons (tC (.str "follows")) (tCons (tFld Z.K (tVar 2) "follow") tNil)))))) (tNext))
    (tSeq (tAsg (tFld Z.K (tVar 2) "follow") (gName 4))
    (tSeq (tIfS (tNot (tB (tMeth Z.M "exchange" (sp_M_exchange Z) [] E0 (tVar 0) (tCons (tVar 1) (tCons (tVar 4) tNil))))) ((tRet (tTup (tCons (tC (.str "misses")) tNil)))) (tNext))
    (tSeq (sFld Z.K (tVar 0) (tOrV (tFld Z.K (tVar 0) "strayed") (tOp (rNeD Z.K) (tOp (rIxL Z.K) (tFld Z.K (tVar 0) "links") (tOp rSubI (tVar 3) (tC (.int 1)))) (tVar 4))) "strayed")
    (tSeq (sFld Z.K (tVar 2) (tVar 3) "cell")
    ((tRet (tTup (tCons (tC (.str "exchanges")) (tCons (tVar 4) tNil)))))))))))))
/-- Machine.guard: 0 self, 1 hand, 2 cell, 3 one -/
def t_M_guard (Z : Cs) : TS :=
  tSeq (tAsg (tOp (rIxL Z.K) (tFld Z.K (tVar 0) "hands") (tVar 1)) (gName 3))
    (tSeq (tIfS (tTest (tOp rNe (tFld Z.K (tVar 3) "mark") (tVar 2))) (tSeq (sFld Z.K (tVar 3) (tVar 2) "mark")
    ((tRet (tTup (tCons (tC (.str "marks")) (tCons (tVar 2) tNil)))))) (tNext))
    (tSeq (tIfS (tTest (tOp rNe (tFld Z.K (tVar 0) "top") (tVar 2))) (tSeq (tDrop (tMeth Z.M "forget" (sp_M_forget Z) [] E0 (tVar 0) (tCons (tVar 1) tNil)))
    ((tRet (tTup (tCons (tC (.str "looks")) (tCons (tC (.bl false)) tNil)))))) (tNext))
    (tSeq (sFld Z.K (tVar 3) (tC (.bl true)) "looked")
    ((tRet (tTup (tCons (tC (.str "looks")) (tCons (tC (.bl true)) tNil))))))))
end SS

set_option Elab.async false
set_option linter.all false
set_option maxRecDepth 100000
set_option maxHeartbeats 4000000
namespace SS
open PySem L2
abbrev endsOf (Q : VK) : Ends := { nx := fun _ H' => Q .non H', rt := Q, bk := fun _ _ => False, ct := fun _ _ => False }
local macro_rules | `(tactic| walk_at "q") => `(tactic| ((try dsimp only); refine s_seq ?_))
theorem pure_M_need_hand {Z : Cs} (k : ZOk Z) (vs : List V) (H : Hp) (Q : VK) (E : XK) (h : sp_M_need_hand Z vs H Q E) : t_M_need_hand Z { nx := fun _ H' => Q .non H', rt := Q } (start ["self", "hand"] vs) H := by
  obtain ⟨A, m, h, a, rfl, T, ha, q⟩ := h
  have hl : (h : Int) < ((A.hs.map fun a => V.ref a.h).length : Int) := by
    rw [List.length_map]
    exact Int.ofNat_lt.mpr (List.getElem?_eq_some_iff.mp ha).1
  have hl2 : h < A.hs.length := (List.getElem?_eq_some_iff.mp ha).1
  unfold t_M_need_hand
  walk_at "q"
  refine (s_ifF (et_is (et_not (et_test (ev_leLt ev_c (ev_var rfl) (ev_lenL (em_hands k T (ev_var rfl)) (SqL.of T.handsLL))))) ?_) (s_ret (em_hand k T ha (ev_var rfl) (ev_var rfl)) q))
  simp [hl2]
theorem pure_M_rests {Z : Cs} (k : ZOk Z) (vs : List V) (H : Hp) (Q : VK) (E : XK) (h : sp_M_rests Z vs H Q E) : t_M_rests Z { nx := fun _ H' => Q .non H', rt := Q } (start ["self", "hand"] vs) H := by
  obtain ⟨A, m, h, a, rfl, T, ha, q⟩ := h
  obtain ⟨sv, O, S⟩ := T.handO ha
  obtain ⟨us, P, hu⟩ := T.progL ha
  unfold t_M_rests
  refine s_ret (ev_is (ev_eq (eh_at k O (em_hand k T ha (ev_var rfl) (ev_var rfl))) (ev_lenL (eh_program k O (em_hand k T ha (ev_var rfl) (ev_var rfl))) (SqL.of P)) rfl) ?_) q
  rw [hu.length]
  unfold M.rests
  congr 1
  rw [dec_int, Bool.beq_eq_decide_eq, Bool.beq_eq_decide_eq]
  exact decide_eq_decide.mpr Int.ofNat_inj
theorem pure_M_forget {Z : Cs} (k : ZOk Z) (vs : List V) (H : Hp) (Q : VK) (E : XK) (h : sp_M_forget Z vs H Q E) : t_M_forget Z { nx := fun _ H' => Q .non H', rt := Q } (start ["self", "hand", "one"] vs) H := by
  obtain ⟨A, m, h, a, rfl, T, ha, q⟩ := h
  obtain ⟨sv, O, S⟩ := T.handO ha
  unfold t_M_forget
  walk_at "q"
  refine (s_asg (em_hand k T ha (ev_var rfl) (ev_var rfl)) ?_)
  rw [← M.setH_self (m := m) (h := h)] at T
  walk_at "q"
  refine (sh_seen (o := none) k T ha O rfl ev_c (ev_var rfl) fun H1 T1 C1 O1 => ?_)
  walk_at "q"
  refine (sh_follow (o := none) k T1 ha O1 rfl ev_c (ev_var rfl) fun H2 T2 C2 O2 => ?_)
  refine sh_looked (b := false) k T2 ha O2 rfl ev_c (ev_var rfl) fun H3 T3 C3 O3 => ?_
  exact q H3 T3 ((C1.trans C2).trans C3)

section
variable {Z : Cs} {A : MA} {m m' : M} {H H0 : Hp} {s : L2.St} {D : Ends} {ar : TA} {w : Tell}
/-- return (a word, ..) -/
theorem s_tell (T : MachAt Z H A m') (C : Chg A.owns H0 H) (h : EvA ar s H (tellVs w)) (q : ∀ H' v, MachAt Z H' A m' → Chg A.owns H0 H' → TellAt H' v w → D.rt v H') : tRet (tTup ar) D s H :=
  e_tup h (by cases w <;> simp [tellVs]) fun p hp => q _ _ (T.new hp) (C.trans (Chg.same (Same.new hp))) ⟨p, rfl, upd_same⟩
end
theorem ansV_int (n : Nat) : ansV (.val n) = natV n := rfl
theorem pure_M_ended {Z : Cs} (k : ZOk Z) (vs : List V) (H : Hp) (Q : VK) (E : XK) (h : sp_M_ended Z vs H Q E) : t_M_ended Z { nx := fun _ H' => Q .non H', rt := Q } (start ["self", "hand", "answer", "one"] vs) H := by
  obtain ⟨A, m, h, a, w, rfl, T, ha, hz, q⟩ := h
  obtain ⟨sv, O, S⟩ := T.handO ha
  unfold t_M_ended
  walk_at "q"
  refine (s_asg (em_hand k T ha (ev_var rfl) (ev_var rfl)) ?_)
  rw [← M.setH_self (m := m) (h := h)] at T
  walk_at "q"
  refine (sh_said (w := w) k T ha O S hz (ev_var rfl) (ev_var rfl) fun H1 T1 C1 O1 => ?_)
  have S1 := S.mono C1.tup
  walk_at "q"
  refine (sh_at (n := (m.hd h).at_ + 1) k T1 ha O1 S1 (ev_add (eh_at k O1 (ev_var rfl)) ev_c) (ev_var rfl) fun H2 T2 C2 O2 => ?_)
  have S2 := S1.mono C2.tup
  have hl := T.len ha
  rw [M.setH_len] at hl
  walk_at "q"
  refine (s_drop' (s_meth (ev_var rfl) T2.obj (mf_no _ _ _ (by simp)) (ea_cons (ev_var rfl) ea_nil) ⟨A, _, h, a, rfl, T2, ha, fun H3 T3 C3 => ?_⟩))
  rw [M.setH_hd hl, M.setH_setH] at T3
  obtain ⟨sv3, O3, S3⟩ := T3.hO ha
  walk_at "q"
  refine (sh_cell (n := 0) k T3 ha O3 S3 ev_c (ev_var rfl) fun H4 T4 C4 O4 => ?_)
  have S4 := S3.mono C4.tup
  walk_at "q"
  refine (sh_mark (n := 0) k T4 ha O4 S4 ev_c (ev_var rfl) fun H5 T5 C5 O5 => ?_)
  refine s_tell (w := .ends w) T5 ((((C1.trans C2).trans C3).trans C4).trans C5) (ea_cons ev_c (ea_cons (ev_var rfl) ea_nil)) fun H' v T' C' W => ?_
  exact q H' v T' C' W
theorem seenD {K : PySem.W.Frag} {H : Hp} {v : V} : ∀ {o : Option (Nat × Nat)}, SeenAt H v o → ∃ d, Dp K H v d ∧ SeqAt.shaped d = true ∧ ∀ t c : Nat, PyData.eqv (.tuple [.int t, .int c]) d = decide (o = some (t, c))
  | none, h => ⟨.none, by rw [show v = .non from h]; exact .non, rfl, fun t c => rfl⟩
  | some (a, b), ⟨q, e, h⟩ => ⟨.tuple [.int a, .int b], by rw [e]; exact .tup (SqT.of h) (.cons (.int _) (.cons (.int _) .nil)), rfl, fun t c => by
      have h1 : PyData.eqv (.tuple [.int t, .int c]) (.tuple [.int a, .int b]) = (((t : Int) == (a : Int)) && (((c : Int) == (b : Int)) && true)) := rfl
      rw [h1, Bool.and_true]
      by_cases e1 : t = a
      · by_cases e2 : c = b
        · subst e1 e2
          simp
        · have n1 : ((c : Int) == (b : Int)) = false := by simpa using fun z => e2 (Int.ofNat_inj.mp z)
          rw [n1, Bool.and_false]
          exact (decide_eq_false (fun z => e2 (by cases z; rfl))).symm
      · have n1 : ((t : Int) == (a : Int)) = false := by simpa using fun z => e1 (Int.ofNat_inj.mp z)
        rw [n1, Bool.false_and]
        exact (decide_eq_false (fun z => e1 (by cases z; rfl))).symm⟩
theorem pure_M_exchange {Z : Cs} (k : ZOk Z) (vs : List V) (H : Hp) (Q : VK) (E : XK) (h : sp_M_exchange Z vs H Q E) : t_M_exchange Z { nx := fun _ H' => Q .non H', rt := Q } (start ["self", "hand", "cell"] vs) H := by
  obtain ⟨A, m, h, c, a, rfl, T, ha, hz, oc, q⟩ := h
  unfold t_M_exchange
  -- the comparison: a new tuple
  have key : ∀ (tu tw : TS) (D : Ends) (s : L2.St), s[0]? = some (some (.ref A.p)) → s[1]? = some (some (.int h)) → (m.fits h = false → ∀ H1, MachAt Z H1 A m → Chg A.owns H H1 → tu D s H1) → (m.fits h = true → ∀ H1, MachAt Z H1 A m → Chg A.owns H H1 → tw D s H1) →
      tIfS (tTest (tOp (rNeD Z.K) (tTup (tCons (tFld Z.K (tVar 0) "top") (tCons (tFld Z.K (tVar 0) "count") tNil))) (tFld Z.K (tOp (rIxL Z.K) (tFld Z.K (tVar 0) "hands") (tVar 1)) "seen"))) tu tw D s H := by
    intro tu tw D s h0 h1 kF kT
    refine s_if_of (t_test_of (t_op_of (e_tup (ea_cons (em_top k T (ev_var h0)) (ea_cons (em_count k T (ev_var h0)) ea_nil)) (by show 2 ≤ 1000; decide) fun p hp => ?_)))
    have T1 := T.new (o := .tup [.int m.top, .int m.count]) hp
    obtain ⟨sv, O, S⟩ := T1.handO ha
    obtain ⟨d, hd, sd, ed⟩ := seenD (K := Z.K) S
    refine (eh_seen k O (em_hand k T1 ha (ev_var h0) (ev_var h1))) _ ?_
    refine ⟨.tuple [.int m.top, .int m.count], d, .tup (SqT.of upd_same) (.cons (.int _) (.cons (.int _) .nil)), hd, rfl, sd, ⟨_, rfl, ?_⟩⟩
    rw [ed]
    unfold M.fits at kF kT
    cases e : decide ((m.hd h).seen = some (m.top, m.count)) with
    | true => exact kT e _ T1 (Chg.same (Same.new hp))
    | false => exact kF e _ T1 (Chg.same (Same.new hp))
  walk_at "q"
  refine key _ _ _ _ rfl rfl (fun e H1 T1 C1 => ?_) (fun e H1 T1 C1 => ?_)
  · have ex : m.exch h c = (false, m.setH h (m.hd h).forgot) := by unfold M.exch; rw [e]; rfl
    rw [ex] at q
    walk_at "q"
    refine (s_drop' (s_meth (ev_var rfl) T1.obj (mf_no _ _ _ (by simp)) (ea_cons (ev_var rfl) ea_nil) ⟨A, _, h, a, rfl, T1, ha, fun H2 T2 C2 => ?_⟩))
    dsimp only
    exact s_ret ev_c (q H2 T2 (C1.trans C2))
  · have ex : m.exch h c = (true, m.exchd h c) := by unfold M.exch; rw [e]; rfl
    rw [ex] at q
    dsimp only [tNext]
    walk_at "q"
    refine (sm_top (t := c) k T1 (ev_var rfl) (ev_var rfl) fun H2 T2 C2 K2 => ?_)
    -- the count
    have cnt : ∀ (tw : TS) (D : Ends) (s : L2.St), s[0]? = some (some (.ref A.p)) → (∀ H3, MachAt Z H3 A { m with top := c, count := m.turned } → Chg A.owns H H3 → D.nx s H3) →
        tIfS (tTest (tOp rEq (tOp (rIxT Z.K) (tFld Z.K (tVar 0) "rule") (tC (.int 0))) (tC (.str "counts")))) (sFld Z.K (tVar 0) (tOp rModI (tOp rAddI (tFld Z.K (tVar 0) "count") (tC (.int 1))) (tOp (rIxT Z.K) (tFld Z.K (tVar 0) "rule") (tC (.int 1)))) "count") tNext D s H2 := by
      intro tw D s h0 kk
      have R := T2.rule
      cases er : m.rule with
      | counts n =>
        have R : H2 A.rule = some (.tup [.str "counts", .int n]) := by
          have := R
          simp only [er, RuleAt] at this
          exact this
        refine s_ifT (et_is (et_test (ev_eq (ev_ixT (em_rule k T2 (ev_var h0)) ev_c (SqT.of R) (atI_nat (j := 0) rfl)) ev_c rfl)) rfl) ?_
        refine sm_count (t := (m.count + 1) % n) k T2 (ev_mod (ev_add (em_count k T2 (ev_var h0)) ev_c) (ev_ixT (em_rule k T2 (ev_var h0)) ev_c (SqT.of R) (atI_nat (j := 1) rfl)) (by have := oc n er; omega)) (ev_var h0) fun H3 T3 C3 _ => ?_
        have et : m.turned = (m.count + 1) % n := by unfold M.turned; rw [er]
        rw [← et] at T3
        exact kk H3 T3 ((C1.trans C2).trans C3)
      | marks hs =>
        have R : ∃ t, H2 A.rule = some (.tup [.str "marks", .ref t]) ∧ H2 t = some (.tup (hs.map natV)) := by
          have := R
          simp only [er, RuleAt] at this
          exact this
        obtain ⟨t, R, _⟩ := R
        refine s_ifF (et_is (et_test (ev_eq (ev_ixT (em_rule k T2 (ev_var h0)) ev_c (SqT.of R) (atI_nat (j := 0) rfl)) ev_c rfl)) (by decide +kernel)) ?_
        have et : m.turned = m.count := by unfold M.turned; rw [er]
        exact kk H2 (by rw [et]; exact T2) (C1.trans C2)
      | keeps =>
        have R : H2 A.rule = some (.tup [.str "keeps"]) := by
          have := R
          simp only [er, RuleAt] at this
          exact this
        refine s_ifF (et_is (et_test (ev_eq (ev_ixT (em_rule k T2 (ev_var h0)) ev_c (SqT.of R) (atI_nat (j := 0) rfl)) ev_c rfl)) (by decide +kernel)) ?_
        have et : m.turned = m.count := by unfold M.turned; rw [er]
        exact kk H2 (by rw [et]; exact T2) (C1.trans C2)
    walk_at "q"
    refine (cnt tNext _ _ rfl fun H3 T3 C3 => ?_)
    -- self.ends.append((hand, self.hands[hand].at))
    obtain ⟨sv, O, S⟩ := T3.handO ha
    obtain ⟨us, L, hu⟩ := T3.endsL
    walk_at "q"
    refine s_appX (em_ends k T3 (ev_var rfl)) L ?_
    refine e_tup (ea_cons (ev_var rfl) (ea_cons (eh_at k O (em_hand k T3 ha (ev_var rfl) (ev_var rfl))) ea_nil)) (by show 2 ≤ 1000; decide) fun p hp => ?_
    have L' : upd H3 p (.tup [.int h, .int (m.hd h).at_]) A.ends = some (.lst us) := Same.new hp _ _ L
    refine ⟨us, L', by rw [hu.length]; exact Nat.lt_of_lt_of_le hz (by decide), ?_⟩
    have T4 := T3.new (o := .tup [.int h, .int (m.hd h).at_]) hp
    obtain ⟨T5, C5⟩ := T4.addEnd (vs := us) (v := .ref p) (p := (h, (m.hd h).at_)) (hu.mono fun _ _ => PairAt.mono fun b xs e => Same.new hp _ _ e) ⟨p, rfl, upd_same⟩
    dsimp only
    exact s_ret ev_c (q _ T5 ((C3.trans (Chg.same (Same.new hp))).trans C5))
end SS

set_option Elab.async false
set_option linter.all false
set_option maxRecDepth 100000
set_option maxHeartbeats 4000000
namespace SS
open PySem L2
local macro_rules | `(tactic| walk_at "q") => `(tactic| ((try dsimp only); refine s_seq ?_))

theorem pure_M_guard {Z : Cs} (k : ZOk Z) (vs : List V) (H : Hp) (Q : VK) (E : XK) (h : sp_M_guard Z vs H Q E) : t_M_guard Z { nx := fun _ H' => Q .non H', rt := Q } (start ["self", "hand", "cell", "one"] vs) H := by
  obtain ⟨A, m, h, c, a, rfl, T, ha, q⟩ := h
  obtain ⟨sv, O, S⟩ := T.handO ha
  unfold t_M_guard
  walk_at "q"
  refine s_asg (em_hand k T ha (ev_var rfl) (ev_var rfl)) ?_
  rw [← M.setH_self (m := m) (h := h)] at T
  walk_at "q"
  refine s_if (et_test (ev_ne (eh_mark k O (ev_var rfl)) (ev_var rfl) rfl)) (fun e => ?_) (fun e => ?_)
  · have e1 : (m.hd h).mark ≠ c := fun z => by simp [z] at e
    have eg : m.guard h c = (.marks c, m.setH h { m.hd h with mark := c }) := by unfold M.guard; rw [if_pos e1]
    rw [eg] at q
    walk_at "q"
    refine sh_mark (n := c) k T ha O S (ev_var rfl) (ev_var rfl) fun H1 T1 C1 O1 => ?_
    dsimp only
    exact s_tell (w := .marks c) T1 C1 (ea_cons ev_c (ea_cons (ev_var rfl) ea_nil)) q
  · have e1 : (m.hd h).mark = c := by
      have := e
      simp only [Bool.not_eq_false', decide_eq_true_eq] at this
      have z := V.int.inj this
      exact Int.ofNat_inj.mp z
    dsimp only [tNext]
    rw [M.setH_self] at T
    walk_at "q"
    refine s_if (et_test (ev_ne (em_top k T (ev_var rfl)) (ev_var rfl) rfl)) (fun e => ?_) (fun e => ?_)
    · have e2 : m.top ≠ c := fun z => by simp [z] at e
      have eg : m.guard h c = (.looks false, m.setH h (m.hd h).forgot) := by unfold M.guard; rw [if_neg (not_not_intro e1), if_pos e2]
      rw [eg] at q
      walk_at "q"
      refine s_drop' (s_meth (ev_var rfl) T.obj (mf_no _ _ _ (by simp)) (ea_cons (ev_var rfl) ea_nil) ⟨A, _, h, a, rfl, T, ha, fun H2 T2 C2 => ?_⟩)
      dsimp only
      exact s_tell (w := .looks false) T2 C2 (ea_cons ev_c (ea_cons ev_c ea_nil)) q
    · have e2 : m.top = c := by
        have := e
        simp only [Bool.not_eq_false', decide_eq_true_eq] at this
        have z := V.int.inj this
        exact Int.ofNat_inj.mp z
      have eg : m.guard h c = (.looks true, m.setH h { m.hd h with looked := true }) := by unfold M.guard; rw [if_neg (not_not_intro e1), if_neg (not_not_intro e2)]
      rw [eg] at q
      dsimp only [tNext]
      rw [← M.setH_self (m := m) (h := h)] at T
      walk_at "q"
      refine sh_looked (b := true) k T ha O S ev_c (ev_var rfl) fun H1 T1 C1 O1 => ?_
      dsimp only
      exact s_tell (w := .looks true) T1 C1 (ea_cons ev_c (ea_cons ev_c ea_nil)) q
/-- self.ends.append((hand, one.at)), the hand in slot 1, one in slot 2 -/
theorem s_ends {Z : Cs} {A : MA} {m : M} {H : Hp} {s : L2.St} {D : Ends} {h : Nat} {a : HA} {sv : V} {x : Hd} {te : TE} (k : ZOk Z) (T : MachAt Z H A m) (ha : A.hs[h]? = some a) (hz : m.ends.length < 1000) (h0 : s[0]? = some (some (.ref A.p))) (h1 : s[1]? = some (some (.int h)))
    (ht : Ev te s H (.int (m.hd h).at_)) (q : ∀ H', MachAt Z H' A { m with ends := m.ends ++ [(h, (m.hd h).at_)] } → Chg A.owns H H' → D.nx s H') :
    tDrop (tBM Z.K "list" rAppend (tFld Z.K (tVar 0) "ends") (tCons (tTup (tCons (tVar 1) (tCons te tNil))) tNil)) D s H := by
  obtain ⟨us, L, hu⟩ := T.endsL
  refine s_appX (em_ends k T (ev_var h0)) L ?_
  refine e_tup (ea_cons (ev_var h1) (ea_cons ht ea_nil)) (by show 2 ≤ 1000; decide) fun p hp => ?_
  have L' : upd H p (.tup [.int h, .int (m.hd h).at_]) A.ends = some (.lst us) := Same.new hp _ _ L
  refine ⟨us, L', by rw [hu.length]; exact Nat.lt_of_lt_of_le hz (by decide), ?_⟩
  have T4 := T.new (o := .tup [.int h, .int (m.hd h).at_]) hp
  obtain ⟨T5, C5⟩ := T4.addEnd (vs := us) (v := .ref p) (p := (h, (m.hd h).at_)) (hu.mono fun _ _ => PairAt.mono fun b xs e => Same.new hp _ _ e) ⟨p, rfl, upd_same⟩
  exact q _ T5 ((Chg.same (Same.new hp)).trans C5)
/-- a deed of a hand's program -/
theorem MachAt.deed {Z : Cs} {A : MA} {m : M} {H : Hp} {h : Nat} {a : HA} {d : Deed} {i : Nat} (T : MachAt Z H A m) (ha : A.hs[h]? = some a) (hd : (m.prog h)[i]? = some d) :
    ∃ us q, H a.prog = some (.lst us) ∧ atI us (i : Int) = some (.ref q) ∧ H q = some (.tup (deedVs d)) := by
  obtain ⟨us, P, hu⟩ := T.progL ha
  obtain ⟨v, hv, q, rfl, hq⟩ := hu.get i hd
  exact ⟨us, q, P, atI_nat hv, hq⟩
theorem pure_M_read {Z : Cs} (k : ZOk Z) (vs : List V) (H : Hp) (Q : VK) (E : XK) (h : sp_M_read Z vs H Q E) : t_M_read Z { nx := fun _ H' => Q .non H', rt := Q } (start ["self", "hand", "one"] vs) H := by
  obtain ⟨A, m, h, a, d, rfl, T, ha, hd, hs, hz, q⟩ := h
  obtain ⟨sv, O, S⟩ := T.handO ha
  obtain ⟨us, p, P, hp, hq⟩ := T.deed ha hd
  unfold t_M_read
  walk_at "q"
  refine s_asg (em_hand k T ha (ev_var rfl) (ev_var rfl)) ?_
  walk_at "q"
  have test : EvT (tAnd (tTest (tOp rEq (tFld Z.K (tVar 0) "top") (tC (.int 0)))) (tTest (tOp rEq (tOp (rIxT Z.K) (tOp (rIxL Z.K) (tFld Z.K (tVar 2) "program") (tFld Z.K (tVar 2) "at")) (tC (.int 0))) (tC (.str "pop")))))
      ((start ["self", "hand", "one"] [.ref A.p, .int h]).set 2 (some (.ref a.h))) H (decide (m.top = 0 ∧ d = .pop)) := by
    refine et_is (et_and (et_test (ev_eq (em_top k T (ev_var rfl)) ev_c rfl)) fun _ => et_test (ev_eq (ev_ixT (ev_ixL (eh_program k O (ev_var rfl)) (eh_at k O (ev_var rfl)) (SqL.of P) hp) ev_c (SqT.of hq) (v := .str (match d with | .pop => "pop" | .push _ => "push")) ?_) ev_c ?_)) ?_
    · cases d <;> exact atI_nat (j := 0) rfl
    · cases d <;> rfl
    · have e0 : decide (V.int (m.top : Int) = V.int 0) = decide (m.top = 0) := decide_eq_decide.mpr ⟨fun e => Int.ofNat_inj.mp (V.int.inj e), fun e => by rw [e]; rfl⟩
      rw [e0]
      cases d with
      | pop => simp
      | push v =>
        have n : ¬ (("push" : Str) = "pop") := by decide +kernel
        simp [n]
  refine s_if test (fun e => ?_) (fun e => ?_)
  · have e1 : m.top = 0 ∧ d = .pop := of_decide_eq_true e
    have er : m.read h d = (.ends .non, { m with ends := m.ends ++ [(h, (m.hd h).at_)] }.endedH h .non) := by unfold M.read; rw [if_pos e1]
    rw [er] at q
    walk_at "q"
    refine s_ends (x := m.hd h) (sv := sv) k T ha hz rfl rfl (eh_at k O (ev_var rfl)) fun H1 T1 C1 => ?_
    dsimp only
    refine s_meth (ev_var rfl) T1.obj (mf_no _ _ _ (by simp)) (ea_cons (ev_var rfl) (ea_cons ev_c ea_nil)) ⟨A, _, h, a, .non, rfl, T1, ha, hs, fun H2 v T2 C2 W => ?_⟩
    exact q H2 v T2 (C1.trans C2) W
  · have e1 : ¬ (m.top = 0 ∧ d = .pop) := of_decide_eq_false e
    have er : m.read h d = (.reads m.top, m.setH h { m.hd h with seen := some (m.top, m.count) }) := by unfold M.read; rw [if_neg e1]
    rw [er] at q
    dsimp only [tNext]
    walk_at "q"
    refine e_tup (ea_cons (em_top k T (ev_var rfl)) (ea_cons (em_count k T (ev_var rfl)) ea_nil)) (by show 2 ≤ 1000; decide) fun p' hp' => ?_
    have T1 := T.new (o := .tup [.int m.top, .int m.count]) hp'
    have C1 : Chg A.owns H (upd H p' (.tup [.int m.top, .int m.count])) := Chg.same (Same.new hp')
    obtain ⟨sv1, O1, S1⟩ := T1.handO ha
    rw [← M.setH_self (m := m) (h := h)] at T1
    show sFld Z.K (tVar 2) (tC (.ref p')) "seen" _ _ _
    refine sh_seen (o := some (m.top, m.count)) k T1 ha O1 ⟨p', rfl, upd_same⟩ ev_c (ev_var rfl) fun H2 T2 C2 O2 => ?_
    dsimp only
    exact s_tell (w := .reads m.top) T2 (C1.trans C2) (ea_cons ev_c (ea_cons (ev_is (em_top k T2 (ev_var rfl)) rfl) ea_nil)) q
theorem ixN_pred {n c : Nat} (h1 : 1 ≤ c) (h2 : c ≤ n) : ixN n ((c : Int) - 1) = some (c - 1) := by
  have e : (c : Int) - 1 = ((c - 1 : Nat) : Int) := by omega
  rw [e]
  unfold ixN
  rw [if_pos (by omega), if_pos (by omega)]
  simp
theorem atI_pred {α : Type} {xs : List α} {c : Nat} {v : α} (h1 : 1 ≤ c) (h : xs[c - 1]? = some v) : atI xs ((c : Int) - 1) = some v := by
  have e : (c : Int) - 1 = ((c - 1 : Nat) : Int) := by omega
  rw [e]
  exact atI_nat h
theorem optV_non {o : Option Nat} : decide (optV o = .non) = decide (o = none) := by
  cases o with
  | none => rfl
  | some n => rfl
theorem pure_M_push {Z : Cs} (k : ZOk Z) (vs : List V) (H : Hp) (Q : VK) (E : XK) (h : sp_M_push Z vs H Q E) : t_M_push Z { nx := fun _ H' => Q .non H', rt := Q } (start ["self", "hand", "one"] vs) H := by
  obtain ⟨A, m, h, t, kk, a, rfl, T, ha, hseen, ⟨hc1, hc2⟩, hs, hz, oc, q⟩ := h
  obtain ⟨sv, O, S⟩ := T.handO ha
  unfold t_M_push
  walk_at "q"
  refine s_asg (em_hand k T ha (ev_var rfl) (ev_var rfl)) ?_
  walk_at "q"
  cases ef : (m.hd h).follow with
  | none =>
    have ep : m.push h t = (.links t, { m with links := m.links.set ((m.hd h).cell - 1) t }.setH h { m.hd h with follow := some t }) := by unfold M.push; rw [ef]
    rw [ep] at q
    refine s_ifT (et_is (et_test (ev_isN (eh_follow k O (ev_var rfl)))) (by rw [optV_non, ef]; rfl)) ?_
    have S' := S
    rw [hseen] at S'
    obtain ⟨p, rfl, hp⟩ := S'
    rw [← M.setH_self (m := m) (h := h)] at T
    walk_at "q"
    refine sh_follow (o := some t) k T ha O S (ev_ixT (eh_seen k O (ev_var rfl)) ev_c (SqT.of hp) (atI_nat (j := 0) rfl)) (ev_var rfl) fun H1 T1 C1 O1 => ?_
    walk_at "q"
    refine s_setL (j := (m.hd h).cell - 1) (eh_follow k O1 (ev_var rfl)) (em_links k T1 (ev_var rfl)) (ev_sub (eh_cell k O1 (ev_var rfl)) ev_c) T1.linksL (by rw [List.length_map]; exact ixN_pred hc1 hc2) ?_
    obtain ⟨T2, C2⟩ := T1.setLinks (m.links.set ((m.hd h).cell - 1) t)
    have el : (List.map natV (m.setH h { m.hd h with follow := some t }).links).set ((m.hd h).cell - 1) (optV (some t)) = (m.links.set ((m.hd h).cell - 1) t).map natV := by
      rw [List.map_set]
      rfl
    dsimp only at el ⊢
    rw [el]
    obtain ⟨sv2, O2, S2⟩ := (show MachAt Z _ A (M.setH { m with links := m.links.set ((m.hd h).cell - 1) t } h { m.hd h with follow := some t }) from T2).hO ha
    exact s_tell (w := .links t) T2 (C1.trans C2) (ea_cons ev_c (ea_cons (eh_follow k O2 (ev_var rfl)) ea_nil)) q
  | some f =>
    refine s_ifF (et_is (et_test (ev_isN (eh_follow k O (ev_var rfl)))) (by rw [optV_non, ef]; rfl)) ?_
    dsimp only [tNext]
    walk_at "q"
    refine s_if_of ?_
    show tMeth _ _ _ _ _ _ _ _ _ _
    refine s_meth (ev_var rfl) T.obj (mf_no _ _ _ (by simp)) (ea_cons (ev_var rfl) (ea_cons (eh_cell k O (ev_var rfl)) ea_nil)) ⟨A, m, h, _, a, rfl, T, ha, hz, oc, fun H1 T1 C1 => ?_⟩
    refine ⟨_, rfl, ?_⟩
    cases e : m.fits h with
    | false =>
      have ex : m.exch h (m.hd h).cell = (false, m.setH h (m.hd h).forgot) := by unfold M.exch; rw [e]; rfl
      have ep : m.push h t = (.misses, m.setH h (m.hd h).forgot) := by unfold M.push; rw [ef, e]; rfl
      rw [ex] at T1 ⊢
      rw [ep] at q
      refine iteT ?_
      dsimp only
      exact s_tell (w := .misses) T1 C1 (ea_cons ev_c ea_nil) q
    | true =>
      have ex : m.exch h (m.hd h).cell = (true, m.exchd h (m.hd h).cell) := by unfold M.exch; rw [e]; rfl
      have ep : m.push h t = (.ends .done, (m.exchd h (m.hd h).cell).endedH h .done) := by unfold M.push; rw [ef, e]; rfl
      rw [ex] at T1 ⊢
      rw [ep] at q
      refine iteF ?_
      dsimp only [tNext]
      refine s_meth (ev_var rfl) T1.obj (mf_no _ _ _ (by simp)) (ea_cons (ev_var rfl) (ea_cons ev_c ea_nil)) ⟨A, _, h, a, .done, rfl, T1, ha, hs, fun H2 v T2 C2 W => ?_⟩
      exact q H2 v T2 (C1.trans C2) W
end SS

set_option Elab.async false
set_option linter.all false
set_option maxRecDepth 100000
set_option maxHeartbeats 4000000
namespace SS
open PySem L2
local macro_rules | `(tactic| walk_at "q") => `(tactic| ((try dsimp only); refine s_seq ?_))

/-! ### small lemmas of lists -/
theorem find_at {p : Nat → Bool} : ∀ {l : List Nat} {i c : Nat}, l[i]? = some c → p c = true → (∀ j d, j < i → l[j]? = some d → p d = false) → l.find? p = some c
  | [], i, c, h, _, _ => by simp at h
  | a :: l, 0, c, h, hp, _ => by
    have e : a = c := Option.some.inj h
    subst e
    rw [List.find?_cons, hp]
  | a :: l, i + 1, c, h, hp, hn => by
    have e : p a = false := hn 0 a (by omega) rfl
    rw [List.find?_cons, e]
    exact find_at (i := i) (by simpa using h) hp fun j d hj hd => hn (j + 1) d (by omega) (by simpa using hd)
theorem find_none' {p : Nat → Bool} {l : List Nat} (h : ∀ (j : Nat) (d : Nat), l[j]? = some d → p d = false) : l.find? p = none := by
  rw [List.find?_eq_none]
  intro x hx
  obtain ⟨j, hj⟩ := List.getElem?_of_mem hx
  rw [h j x hj]
  exact Bool.false_ne_true
theorem erase_at : ∀ {l : List Nat} {i c : Nat}, l[i]? = some c → (∀ j, j < i → l[j]? ≠ some c) → l.eraseIdx i = l.erase c
  | [], i, c, h, _ => by simp at h
  | a :: l, 0, c, h, _ => by
    have e : a = c := Option.some.inj h
    subst e
    simp
  | a :: l, i + 1, c, h, hn => by
    have e : a ≠ c := fun z => hn 0 (by omega) (by rw [z] <;> rfl)
    rw [List.eraseIdx_cons_succ, List.erase_cons_tail (by simpa using e)]
    rw [erase_at (i := i) (by simpa using h) fun j hj q => hn (j + 1) (by omega) (by simpa using q)]
theorem eraseIdx_map' : ∀ (l : List Nat) (i : Nat), (l.map Int.ofNat).eraseIdx i = (l.eraseIdx i).map Int.ofNat
  | [], i => by simp
  | a :: l, 0 => by simp
  | a :: l, i + 1 => by simp [eraseIdx_map' l i]
theorem natV_int (l : List Nat) : l.map natV = (l.map Int.ofNat).map V.int := by
  rw [List.map_map]
  rfl
theorem inV_nat {c : Nat} {l : List Nat} : inV (natV c) (l.map natV) = l.contains c := by
  unfold inV
  rw [List.any_map]
  rw [List.contains_eq_any_beq]
  congr 1
  funext d
  show ((d : Int) == (c : Int)) = (c == d)
  rw [Bool.beq_eq_decide_eq, Bool.beq_eq_decide_eq]
  exact decide_eq_decide.mpr ⟨fun e => (Int.ofNat_inj.mp e).symm, fun e => by rw [e]⟩
theorem flat_nat (l : List Nat) : (l.map natV).all flatV = true := by
  rw [List.all_eq_true]
  intro x hx
  obtain ⟨n, _, rfl⟩ := List.mem_map.mp hx
  rfl
theorem same_newer {H H' : Hp} {D : Addr} {o : HO} (c : Same H H') (h : H D = none) : Same H (upd H' D o) := fun b u e => by
  rw [upd_ne (ne_of_none e h)]
  exact c b u e
theorem take_snoc {α : Type} {l : List α} {i : Nat} {x : α} (h : l[i]? = some x) : l.take (i + 1) = l.take i ++ [x] := by
  rw [List.take_add_one, h]
  rfl
theorem map_get {α β : Type} {f : α → β} {l : List α} {i : Nat} {y : β} (h : (l.map f)[i]? = some y) : ∃ x, l[i]? = some x ∧ y = f x := by
  rw [List.getElem?_map] at h
  cases e : l[i]? with
  | none =>
    rw [e] at h
    cases h
  | some x =>
    rw [e] at h
    exact ⟨x, rfl, (Option.some.inj h).symm⟩
theorem dec_nat {a b : Nat} : decide (V.int (a : Int) = V.int (b : Int)) = decide (a = b) :=
  decide_eq_decide.mpr ⟨fun e => Int.ofNat_inj.mp (V.int.inj e), fun e => by rw [e]⟩
theorem dec_nat0 {a : Nat} : decide (V.int (a : Int) = V.int 0) = decide (a = 0) := dec_nat (b := 0)
theorem MachAt.hd_get {Z : Cs} {A : MA} {m : M} {H : Hp} (T : MachAt Z H A m) {i : Nat} (h : i < m.hands.length) : m.hands[i]? = some (m.hd i) := by
  unfold M.hd
  rw [List.getD_eq_getElem?_getD, List.getElem?_eq_getElem h]
  rfl

theorem pure_M_marks {Z : Cs} (k : ZOk Z) (vs : List V) (H : Hp) (Q : VK) (E : XK) (h : sp_M_marks Z vs H Q E) : t_M_marks Z { nx := fun _ H' => Q .non H', rt := Q } (start ["self", "hand"] vs) H := by
  obtain ⟨A, m, rfl, T, hn, q⟩ := h
  unfold t_M_marks
  refine e_lcL (em_hands k T (ev_var rfl)) (SqL.of T.handsLL) (fun D i H' => Same H H' ∧ H' D = some (.lst ((((m.hands.take i).map (·.mark)).filter (· != 0)).map natV)))
    (fun D hD => ⟨Same.new hD, upd_same⟩) (fun D i H' _ _ p => SqL.of (T.same p.1).handsLL) (fun D i x H' hx hD p => ?_) (fun D H' hD p => ?_)
  · obtain ⟨a, ha, rfl⟩ := map_get hx
    have T' := T.same p.1
    obtain ⟨sv, O, S⟩ := T'.handO ha
    have hi := T'.len ha
    have eq := T'.hd_get hi
    refine ⟨rfl, ?_⟩
    refine et_test (ev_ne (eh_mark k O (ev_var rfl)) ev_c rfl) _ ?_
    rw [dec_nat0]
    by_cases e : (m.hd i).mark = 0
    · rw [decide_eq_true e]
      refine iteF ⟨p.1, ?_⟩
      rw [p.2, take_snoc eq, List.map_append, List.filter_append]
      simp [e]
    · rw [decide_eq_false e]
      refine iteT (eh_mark k O (ev_var rfl) _ ⟨_, p.2, ?_, same_newer p.1 hD, ?_⟩)
      · rw [List.length_map]
        refine Nat.lt_of_le_of_lt (List.length_filter_le _ _) ?_
        rw [List.length_map, List.length_take]
        exact Nat.lt_of_le_of_lt (Nat.min_le_left _ _) (Nat.lt_of_lt_of_le (Nat.lt_of_lt_of_le hi hn) (by decide))
      · rw [upd_same, take_snoc eq, List.map_append, List.filter_append]
        simp [e]
  · refine q D H' hD p.1 ?_
    rw [p.2, List.length_map, T.hs, List.take_length]
    rfl

def Rule.word : Rule → Str
  | .counts _ => "counts"
  | .marks _ => "marks"
  | .keeps => "keeps"
theorem ruleW (H : Hp) (a : Addr) (r : Rule) (h : RuleAt H a r) : ∃ xs, H a = some (.tup xs) ∧ atI xs 0 = some (.str r.word) := by
  cases r with
  | counts n => exact ⟨_, h, atI_nat (j := 0) rfl⟩
  | marks hs =>
    obtain ⟨t, h, _⟩ := h
    exact ⟨_, h, atI_nat (j := 0) rfl⟩
  | keeps => exact ⟨_, h, atI_nat (j := 0) rfl⟩
theorem pure_M_taken {Z : Cs} (k : ZOk Z) (vs : List V) (H : Hp) (Q : VK) (E : XK) (h : sp_M_taken Z vs H Q E) : t_M_taken Z { nx := fun _ H' => Q .non H', rt := Q } (start ["self", "value", "cell"] vs) H := by
  obtain ⟨A, m, v, rfl, T, hn, hw, hll, hf, hfr, q⟩ := h
  unfold t_M_taken
  walk_at "q"
  have wr := fun H' (c : Same H H') => ruleW H' A.rule m.rule (T.same c).rule
  refine s_forLN (xs := m.freed.map natV) (fun l i s' H' => (∃ w, s' = [some (.ref A.p), some (.int v), w]) ∧ Same H H' ∧ H' l = some (.lst (m.freed.map natV)) ∧ ∀ j c, j < i → m.freed[j]? = some c → m.rule = .keeps ∨ m.marked.contains c = true)
    (fun R hR => e_listOf (em_freed k T (ev_var rfl)) (.inl (SqL.of T.freedL)) fun l hl => hR l _ hl (Same.new hl) upd_same)
    (fun l H' hl c hL => ⟨⟨none, rfl⟩, c, hL, fun j c hj => by omega⟩) (fun l i s' H' _ _ p => SqL.of p.2.2.1) ?_ ?_
  · rintro l i x s' H' hx hl ⟨⟨w, rfl⟩, c, hL, hr⟩
    obtain ⟨cell, hc, rfl⟩ := map_get hx
    have T' := T.same c
    obtain ⟨xs, hR, hat⟩ := wr H' c
    show tIfS _ _ _ _ _ _
    by_cases ek : m.rule = .keeps
    · refine s_ifF ?_ ?_
      · refine et_is (et_and (et_test (ev_ne (ev_ixT (em_rule k T' (ev_var rfl)) ev_c (SqT.of hR) hat) ev_c rfl)) (b := true) fun e => ?_) ?_
        · rw [ek] at e
          exact absurd e (by decide +kernel)
        · rw [ek]
          decide +kernel
      · exact ⟨⟨_, rfl⟩, c, hL, fun j d hj hd => .inl ek⟩
    · refine s_if_of ?_
      refine (et_test (b := true) (ev_is (ev_ne (ev_ixT (em_rule k T' (ev_var rfl)) ev_c (SqT.of hR) hat) ev_c rfl) ?_)) _ ?_
      · cases er : m.rule with
        | counts n => exact (by decide +kernel : (V.bl !decide (V.str "counts" = V.str "keeps")) = V.bl true)
        | marks hs => exact (by decide +kernel : (V.bl !decide (V.str "marks" = V.str "keeps")) = V.bl true)
        | keeps => exact absurd er ek
      refine iteT ?_
      refine t_test_of (t_op_of (ev_var rfl _ ?_))
      refine s_meth (ev_var rfl) T'.obj (mf_no _ _ _ (by simp)) ea_nil ⟨A, m, rfl, T', hn, fun l2 H2 hl2 c2 hL2 => ?_⟩
      refine ⟨l2, _, rfl, .inl (SqL.of hL2), rfl, flat_nat _, ⟨_, rfl, ?_⟩⟩
      have hi : i < m.freed.length := (List.getElem?_eq_some_iff.mp hc).1
      rw [inV_nat]
      cases em : m.marked.contains cell with
      | true =>
        refine iteF ⟨⟨_, rfl⟩, fun b o e => c2 b o (c b o e), c2 _ _ hL, fun j d hj hd => ?_⟩
        by_cases ej : j < i
        · exact hr j d ej hd
        · have e : j = i := by omega
          subst e
          rw [hc] at hd
          cases hd
          exact .inr em
      | false =>
        refine iteT ?_
        have c12 : Same H H2 := fun b o e => c2 b o (c b o e)
        have T2 := T.same c12
        have hfi : ∀ (j : Nat) (d : Nat), j < i → m.freed[j]? = some d → (!m.marked.contains d) = false := fun j d hj hd => by
          rcases hr j d hj hd with z | z
          · exact absurd z ek
          · rw [z]
            rfl
        have hpick : pick m.rule m.marked m.freed = some cell := by
          unfold pick
          rw [if_neg ek]
          exact find_at hc (by rw [em]; rfl) hfi
        have hne : ∀ j, j < i → m.freed[j]? ≠ some cell := fun j hj q => by
          have := hfi j cell hj q
          rw [em] at this
          cases this
        obtain ⟨c1, c2'⟩ := hfr cell (List.mem_of_getElem? hc)
        have et : m.taken v = (cell, { m with freed := m.freed.erase cell, worths := m.worths.set (cell - 1) v }) := by unfold M.taken; rw [hpick]
        rw [et] at q
        walk_at "q"
        have L2 := T2.freedL
        rw [natV_int] at L2
        refine s_drop' (em_freed k T2 (ev_var rfl) _ ⟨.inl ⟨rfl, _, SqL.of L2⟩, ev_var rfl _ ⟨A.freed, _, cell, i, rfl, rfl, L2, by rw [List.getElem?_map, hc] <;> rfl, fun j hj e => ?_, ?_⟩⟩)
        · obtain ⟨d, hd, e2⟩ : ∃ d, m.freed[j]? = some d ∧ (cell : Int) = (d : Int) := by
            rw [List.getElem?_map] at e
            cases e3 : m.freed[j]? with
            | none => rw [e3] at e; cases e
            | some d => rw [e3] at e; exact ⟨d, rfl, (Option.some.inj e).symm⟩
          exact hne j hj (by rw [hd, Int.ofNat_inj.mp e2])
        have ee : ((m.freed.map Int.ofNat).eraseIdx i).map V.int = (m.freed.erase cell).map natV := by
          rw [← erase_at hc hne, natV_int, eraseIdx_map']
        rw [ee]
        obtain ⟨T3, C3⟩ := T2.setFreed (m.freed.erase cell)
        walk_at "q"
        refine s_setL (j := cell - 1) (ev_var rfl) (em_worths k T3 (ev_var rfl)) (ev_sub (ev_var rfl) ev_c) T3.worthsL (by rw [List.length_map]; exact ixN_pred c1 c2') ?_
        have ew : (List.map V.int { m with freed := m.freed.erase cell }.worths).set (cell - 1) (.int v) = (m.worths.set (cell - 1) v).map V.int := by rw [List.map_set]
        obtain ⟨T4, C4⟩ := T3.setWorths (m.worths.set (cell - 1) v)
        dsimp only at ew ⊢
        rw [ew]
        exact s_ret (ev_var rfl) (q _ T4 (((Chg.same c12).trans C3).trans C4))
  · rintro l s' H' hl ⟨⟨w, rfl⟩, c, hL, hr⟩
    have T' := T.same c
    rw [List.length_map] at hr
    have hpick : pick m.rule m.marked m.freed = none := by
      unfold pick
      by_cases ek : m.rule = .keeps
      · rw [if_pos ek]
      · rw [if_neg ek]
        refine find_none' fun j d hd => ?_
        rcases hr j d (List.getElem?_eq_some_iff.mp hd).1 hd with z | z
        · exact absurd z ek
        · rw [z]
          rfl
    have et : m.taken v = (m.worths.length + 1, { m with worths := m.worths ++ [v], links := m.links ++ [0] }) := by unfold M.taken; rw [hpick]
    rw [et] at q
    walk_at "q"
    refine s_app (em_worths k T' (ev_var rfl)) T'.worthsL (ev_var rfl) (by rw [List.length_map]; exact Nat.lt_of_lt_of_le hw (by decide)) ?_
    have e1 : List.map V.int m.worths ++ [V.int v] = (m.worths ++ [v]).map V.int := by rw [List.map_append]; rfl
    rw [e1]
    obtain ⟨T2, C2⟩ := T'.setWorths (m.worths ++ [v])
    walk_at "q"
    refine s_app (em_links k T2 (ev_var rfl)) T2.linksL ev_c (by rw [List.length_map]; exact Nat.lt_of_lt_of_le hll (by decide)) ?_
    have e2 : List.map natV { m with worths := m.worths ++ [v] }.links ++ [V.int 0] = (m.links ++ [0]).map natV := by rw [List.map_append]; rfl
    rw [e2]
    obtain ⟨T3, C3⟩ := T2.setLinks (m.links ++ [0])
    dsimp only
    refine s_ret (ev_is (ev_lenL (em_worths k T3 (ev_var rfl)) (SqL.of T3.worthsL)) ?_) (q _ T3 (((Chg.same c).trans C2).trans C3))
    simp
end SS

set_option Elab.async false
set_option linter.all false
set_option maxRecDepth 100000
set_option maxHeartbeats 4000000
namespace SS
open PySem L2
local macro_rules | `(tactic| walk_at "q") => `(tactic| ((try dsimp only); refine s_seq ?_))

theorem named_marks {m : M} {h : Nat} {hs : List Nat} (e : m.rule = .marks hs) : m.rule.named h = hs.contains h := by rw [e]; rfl
/-- self.rule[0] == "marks" and hand in self.rule[1] and not one.looked -/
theorem ev_named {Z : Cs} {A : MA} {m : M} {H : Hp} {h : Nat} {a : HA} {sv : V} {x : Hd} {s : L2.St} {n : Nat} (k : ZOk Z) (T : MachAt Z H A m) (O : HandO Z H a sv x) (h0 : s[0]? = some (some (.ref A.p))) (h1 : s[1]? = some (some (.int h))) (h2 : s[n]? = some (some (.ref a.h))) :
    EvT (tAnd (tTest (tOp rEq (tOp (rIxT Z.K) (tFld Z.K (tVar 0) "rule") (tC (.int 0))) (tC (.str "marks")))) (tAnd (tTest (tOp (rIn Z.K false) (tVar 1) (tOp (rIxT Z.K) (tFld Z.K (tVar 0) "rule") (tC (.int 1))))) (tNot (tB (tFld Z.K (tVar n) "looked")))))
      s H (decide (m.rule.named h = true ∧ x.looked = false)) := by
  cases er : m.rule with
  | counts c =>
    have R : H A.rule = some (.tup [.str "counts", .int c]) := by
      have := T.rule
      rw [er] at this
      exact this
    refine et_is (et_and (b := true) (et_test (ev_eq (ev_ixT (em_rule k T (ev_var h0)) ev_c (SqT.of R) (atI_nat (j := 0) rfl)) ev_c rfl)) fun e => ?_) ?_
    · exact absurd e (by decide +kernel)
    · have n : decide (V.str "counts" = V.str "marks") = false := by decide +kernel
      rw [n]
      simp [Rule.named]
  | keeps =>
    have R : H A.rule = some (.tup [.str "keeps"]) := by
      have := T.rule
      rw [er] at this
      exact this
    refine et_is (et_and (b := true) (et_test (ev_eq (ev_ixT (em_rule k T (ev_var h0)) ev_c (SqT.of R) (atI_nat (j := 0) rfl)) ev_c rfl)) fun e => ?_) ?_
    · exact absurd e (by decide +kernel)
    · have n : decide (V.str "keeps" = V.str "marks") = false := by decide +kernel
      rw [n]
      simp [Rule.named]
  | marks hs =>
    have R : ∃ t, H A.rule = some (.tup [.str "marks", .ref t]) ∧ H t = some (.tup (hs.map natV)) := by
      have := T.rule
      rw [er] at this
      exact this
    obtain ⟨t, R, R2⟩ := R
    refine et_is (et_and (et_test (ev_eq (ev_ixT (em_rule k T (ev_var h0)) ev_c (SqT.of R) (atI_nat (j := 0) rfl)) ev_c rfl)) fun e =>
      et_and (et_test (ev_inT (ev_var h1) (ev_ixT (em_rule k T (ev_var h0)) ev_c (SqT.of R) (atI_nat (j := 1) rfl)) (SqT.of R2) rfl (flat_nat _))) fun _ => et_not (et_B (eh_looked k O (ev_var h2)))) ?_
    have e1 : decide (V.str "marks" = V.str "marks") = true := decide_eq_true rfl
    rw [e1]
    have e2 : inV (V.int (h : Int)) (hs.map natV) = hs.contains h := inV_nat (c := h)
    rw [Bool.true_and, if_neg Bool.false_ne_true, e2]
    show (hs.contains h && !x.looked) = decide ((Rule.marks hs).named h = true ∧ x.looked = false)
    rw [Bool.decide_and, Bool.decide_eq_true]
    show (hs.contains h && !x.looked) = (hs.contains h && _)
    cases x.looked <;> simp
theorem pure_M_pop {Z : Cs} (k : ZOk Z) (vs : List V) (H : Hp) (Q : VK) (E : XK) (h : sp_M_pop Z vs H Q E) : t_M_pop Z { nx := fun _ H' => Q .non H', rt := Q } (start ["self", "hand", "one", "cell", "follow"] vs) H := by
  obtain ⟨A, m, h, t, kk, a, rfl, T, ha, hseen, ⟨ht1, ht2⟩, hcw, hs, hz, hf, oc, q⟩ := h
  obtain ⟨sv, O, S⟩ := T.handO ha
  unfold t_M_pop
  walk_at "q"
  refine s_asg (em_hand k T ha (ev_var rfl) (ev_var rfl)) ?_
  walk_at "q"
  refine s_if (et_test (ev_ne (eh_cell k O (ev_var rfl)) ev_c rfl)) (fun e => ?_) (fun e => ?_)
  · have e1 : (m.hd h).cell ≠ 0 := fun z => by
      rw [z] at e
      exact absurd e (by decide)
    have ep : m.pop h t = (.ends (.val (m.worths.getD ((m.hd h).cell - 1) 0)), { m with freed := m.freed ++ [(m.hd h).cell] }.endedH h (.val (m.worths.getD ((m.hd h).cell - 1) 0))) := by unfold M.pop; rw [if_pos e1]
    rw [ep] at q
    walk_at "q"
    refine s_app (em_freed k T (ev_var rfl)) T.freedL (eh_cell k O (ev_var rfl)) (by rw [List.length_map]; exact Nat.lt_of_lt_of_le hf (by decide)) ?_
    have e2 : List.map natV m.freed ++ [V.int (m.hd h).cell] = (m.freed ++ [(m.hd h).cell]).map natV := by rw [List.map_append]; rfl
    rw [e2]
    obtain ⟨T1, C1⟩ := T.setFreed (m.freed ++ [(m.hd h).cell])
    obtain ⟨sv1, O1, S1⟩ := T1.handO ha
    dsimp only
    have hv : (m.worths.map V.int)[(m.hd h).cell - 1]? = some (ansV (.val (m.worths.getD ((m.hd h).cell - 1) 0))) := by
      rw [List.getElem?_map, List.getD_eq_getElem?_getD, List.getElem?_eq_getElem (by omega)]
      rfl
    refine s_meth (ev_var rfl) T1.obj (mf_no _ _ _ (by simp)) (ea_cons (ev_var rfl) (ea_cons (ev_ixL (em_worths k T1 (ev_var rfl)) (ev_sub (eh_cell k O1 (ev_var rfl)) ev_c) (SqL.of T1.worthsL) (atI_pred (by show 1 ≤ (m.hd h).cell; omega) hv)) ea_nil)) ⟨A, _, h, a, _, rfl, T1, ha, hs, fun H2 v T2 C2 W => ?_⟩
    exact q H2 v T2 (C1.trans C2) W
  have e1 : (m.hd h).cell = 0 := by
    have := e
    simp only [Bool.not_eq_false', decide_eq_true_eq] at this
    exact Int.ofNat_inj.mp (V.int.inj this)
  dsimp only [tNext]
  have S' := S
  rw [hseen] at S'
  obtain ⟨p, rfl, hp⟩ := S'
  walk_at "q"
  refine s_asg (ev_ixT (eh_seen k O (ev_var rfl)) ev_c (SqT.of hp) (atI_nat (j := 0) rfl)) ?_
  walk_at "q"
  refine s_if (ev_named k T O rfl rfl rfl) (fun e => ?_) (fun e => ?_)
  · have e2 := of_decide_eq_true e
    have ep : m.pop h t = m.guard h t := by
      unfold M.pop
      rw [if_neg (by omega), if_pos e2]
    rw [ep] at q
    dsimp only
    refine s_meth (ev_var rfl) T.obj (mf_no _ _ _ (by simp)) (ea_cons (ev_var rfl) (ea_cons (ev_var rfl) ea_nil)) ⟨A, m, h, t, a, rfl, T, ha, q⟩
  have e2 := of_decide_eq_false e
  dsimp only [tNext]
  have hlk : (m.links.map natV)[t - 1]? = some (natV (m.links.getD (t - 1) 0)) := by
    rw [List.getElem?_map, List.getD_eq_getElem?_getD, List.getElem?_eq_getElem (by omega)]
    rfl
  walk_at "q"
  cases ef : (m.hd h).follow with
  | none =>
    have ep : m.pop h t = (.follows (m.links.getD (t - 1) 0), m.setH h { m.hd h with follow := some (m.links.getD (t - 1) 0) }) := by
      unfold M.pop
      rw [if_neg (by omega), if_neg e2, ef]
    rw [ep] at q
    refine s_ifT (et_is (et_test (ev_isN (eh_follow k O (ev_var rfl)))) (by rw [optV_non, ef]; rfl)) ?_
    rw [← M.setH_self (m := m) (h := h)] at T
    walk_at "q"
    refine sh_follow (o := some (m.links.getD (t - 1) 0)) k T ha O S (ev_ixL (em_links k T (ev_var rfl)) (ev_sub (ev_var rfl) ev_c) (SqL.of T.linksL) (atI_pred ht1 hlk)) (ev_var rfl) fun H1 T1 C1 O1 => ?_
    dsimp only
    exact s_tell (w := .follows (m.links.getD (t - 1) 0)) T1 C1 (ea_cons ev_c (ea_cons (eh_follow k O1 (ev_var rfl)) ea_nil)) q
  | some f =>
    refine s_ifF (et_is (et_test (ev_isN (eh_follow k O (ev_var rfl)))) (by rw [optV_non, ef]; rfl)) ?_
    dsimp only [tNext]
    walk_at "q"
    refine s_asg (ev_is (eh_follow k O (ev_var rfl)) (show _ = V.int f by rw [ef]; rfl)) ?_
    walk_at "q"
    refine s_if_of ?_
    show tMeth _ _ _ _ _ _ _ _ _ _
    refine s_meth (ev_var rfl) T.obj (mf_no _ _ _ (by simp)) (ea_cons (ev_var rfl) (ea_cons (ev_var rfl) ea_nil)) ⟨A, m, h, f, a, rfl, T, ha, hz, oc, fun H1 T1 C1 => ?_⟩
    refine ⟨_, rfl, ?_⟩
    cases e : m.fits h with
    | false =>
      have ex : m.exch h f = (false, m.setH h (m.hd h).forgot) := by unfold M.exch; rw [e]; rfl
      have ep : m.pop h t = (.misses, m.setH h (m.hd h).forgot) := by
        unfold M.pop
        rw [if_neg (by omega), if_neg e2, ef, e]
        rfl
      rw [ex] at T1 ⊢
      rw [ep] at q
      refine iteT ?_
      dsimp only
      exact s_tell (w := .misses) T1 C1 (ea_cons ev_c ea_nil) q
    | true =>
      have ex : m.exch h f = (true, m.exchd h f) := by unfold M.exch; rw [e]; rfl
      have ep : m.pop h t = (.exchanges f, { m.exchd h f with strayed := m.strayed || m.links.getD (t - 1) 0 != f }.setH h { m.hd h with cell := t }) := by
        unfold M.pop
        rw [if_neg (by omega), if_neg e2, ef, e]
        rfl
      rw [ex] at T1 ⊢
      rw [ep] at q
      refine iteF ?_
      dsimp only [tNext]
      walk_at "q"
      have hne : Ev (tOp (rNeD Z.K) (tOp (rIxL Z.K) (tFld Z.K (tVar 0) "links") (tOp rSubI (tVar 3) (tC (.int 1)))) (tVar 4)) ((((start ["self", "hand", "one", "cell", "follow"] [V.ref A.p, V.int h]).set 2 (some (V.ref a.h))).set 3 (some (V.int t))).set 4 (some (V.int f))) H1 (.bl (m.links.getD (t - 1) 0 != f)) := by
        refine ev_is (ev_neD (ev_ixL (em_links k T1 (ev_var rfl)) (ev_sub (ev_var rfl) ev_c) (SqL.of T1.linksL) (atI_pred ht1 hlk)) (ev_var rfl) (.int _) (.int _) rfl rfl) ?_
        show V.bl (!((m.links.getD (t - 1) 0 : Nat) : Int) == (f : Int)) = _
        congr 1
        show _ = !(m.links.getD (t - 1) 0 == f)
        congr 1
        rw [Bool.beq_eq_decide_eq, Bool.beq_eq_decide_eq]
        exact decide_eq_decide.mpr Int.ofNat_inj
      refine sm_strayed (t := m.strayed || m.links.getD (t - 1) 0 != f) k T1 (ev_orV (ev_is (em_strayed k T1 (ev_var rfl)) rfl) fun _ => hne) (ev_var rfl) fun H2 T2 C2 K2 => ?_
      walk_at "q"
      have T2' : MachAt Z H2 A ({ m.exchd h f with strayed := m.strayed || m.links.getD (t - 1) 0 != f }.setH h (m.hd h)) := by
        have z : { m.exchd h f with strayed := m.strayed || m.links.getD (t - 1) 0 != f }.setH h (m.hd h) = { m.exchd h f with strayed := m.strayed || m.links.getD (t - 1) 0 != f } := M.setH_self (m := { m.exchd h f with strayed := m.strayed || m.links.getD (t - 1) 0 != f }) (h := h)
        rw [z]
        exact T2
      obtain ⟨sv2, O2, S2⟩ := T2'.hO ha
      refine sh_cell (n := t) k T2' ha O2 S2 (ev_var rfl) (ev_var rfl) fun H3 T3 C3 O3 => ?_
      dsimp only
      exact s_tell (w := .exchanges f) T3 ((C1.trans C2).trans C3) (ea_cons ev_c (ea_cons (ev_var rfl) ea_nil)) q
end SS

set_option Elab.async false
set_option linter.all false
set_option maxRecDepth 100000
set_option maxHeartbeats 4000000
namespace SS
open PySem L2
local macro_rules | `(tactic| walk_at "q") => `(tactic| ((try dsimp only); refine s_seq ?_))

theorem ev_word {Z : Cs} {H : Hp} {s : L2.St} {n : Nat} {q : Addr} {d : Deed} (h : s[n]? = some (some (.ref q))) (hq : H q = some (.tup (deedVs d))) :
    Ev (tOp (rIxT Z.K) (tVar n) (tC (.int 0))) s H (.str (match d with | .pop => "pop" | .push _ => "push")) := by
  cases d with
  | pop => exact ev_ixT (ev_var h) ev_c (SqT.of hq) (atI_nat (j := 0) rfl)
  | push v => exact ev_ixT (ev_var h) ev_c (SqT.of hq) (atI_nat (j := 0) rfl)
theorem pure_M_turn {Z : Cs} (k : ZOk Z) (vs : List V) (H : Hp) (Q : VK) (E : XK) (h : sp_M_turn Z vs H Q E) : t_M_turn Z { nx := fun _ H' => Q .non H', rt := Q } (start ["self", "hand", "one", "deed"] vs) H := by
  obtain ⟨A, m, h, rfl, T, W, hl, q⟩ := h
  obtain ⟨a, ha⟩ := T.hand_of hl
  obtain ⟨sv, O, S⟩ := T.handO ha
  unfold t_M_turn
  walk_at "q"
  refine s_meth (ev_var rfl) T.obj (mf_no _ _ _ (by simp)) (ea_cons (ev_var rfl) ea_nil) ⟨A, m, h, a, rfl, T, ha, ?_⟩
  show ({ nx := _, rt := Q : Ends }).nx _ _
  walk_at "q"
  refine s_if_of (t_B_of (s_meth (ev_var rfl) T.obj (mf_no _ _ _ (by simp)) (ea_cons (ev_var rfl) ea_nil) ⟨A, m, h, a, rfl, T, ha, ⟨_, rfl, ?_⟩⟩))
  cases er : m.rests h with
  | true =>
    have ep : (m.prog h)[(m.hd h).at_]? = none := by
      unfold M.rests at er
      have : (m.hd h).at_ = (m.prog h).length := eq_of_beq er
      rw [this]
      exact List.getElem?_eq_none (Nat.le_refl _)
    have et : m.turn h = (.rests, m) := by unfold M.turn; rw [ep]
    rw [et] at q
    refine iteT ?_
    dsimp only
    exact s_ret_of (e_tup (ea_cons ev_c ea_nil) (by show 1 ≤ 1000; decide) fun p hp => q _ _ (T.new hp) (Chg.same (Same.new hp)) ⟨p, rfl, upd_same⟩ fun _ => Same.new hp)
  | false =>
    have q : ∀ H' v, MachAt Z H' A (m.turn h).2 → Chg A.owns H H' → TellAt H' v (m.turn h).1 → Q v H' := fun H' v a b c => q H' v a b c fun z => by
      rw [er] at z
      cases z
    refine iteF ?_
    dsimp only [tNext]
    have hat : (m.hd h).at_ < (m.prog h).length := by
      have := W.at_ h
      unfold M.rests at er
      have : (m.hd h).at_ ≠ (m.prog h).length := by simpa using er
      omega
    obtain ⟨d, hd⟩ : ∃ d, (m.prog h)[(m.hd h).at_]? = some d := ⟨_, List.getElem?_eq_getElem hat⟩
    obtain ⟨us, p, P, hp, hq⟩ := T.deed ha hd
    walk_at "q"
    refine s_asg (ev_ixL (eh_program k O (ev_var rfl)) (eh_at k O (ev_var rfl)) (SqL.of P) hp) ?_
    walk_at "q"
    have n1 : decide (V.str "pop" = V.str "push") = false := by decide +kernel
    have n2 : decide (V.str "push" = V.str "push") = true := decide_eq_true rfl
    cases d with
    | pop =>
      refine s_ifF (et_is (et_and (b := true) (et_test (ev_eq (ev_word rfl hq) ev_c rfl)) fun e => absurd (n1.symm.trans e) Bool.false_ne_true) (by rw [n1]; rfl)) ?_
      dsimp only [tNext]
      walk_at "q"
      cases es : (m.hd h).seen with
      | none =>
        have et : m.turn h = m.read h .pop := by unfold M.turn; rw [hd, es]
        rw [et] at q
        have ev : sv = .non := by
          rw [es] at S
          exact S
        refine s_ifT (et_is (et_test (ev_isN (eh_seen k O (ev_var rfl)))) (by rw [ev]; rfl)) ?_
        dsimp only
        exact s_meth (ev_var rfl) T.obj (mf_no _ _ _ (by simp)) (ea_cons (ev_var rfl) ea_nil) ⟨A, m, h, a, .pop, rfl, T, ha, hd, W.sl h, W.el, q⟩
      | some z =>
        obtain ⟨t, kk⟩ := z
        have et : m.turn h = m.pop h t := by unfold M.turn; rw [hd, es]
        rw [et] at q
        have ev : sv ≠ .non := by
          rw [es] at S
          obtain ⟨y, e, _⟩ := S
          rw [e]
          intro z
          cases z
        refine s_ifF (et_is (et_test (ev_isN (eh_seen k O (ev_var rfl)))) (decide_eq_false ev)) ?_
        dsimp only [tNext]
        walk_at "q"
        refine s_ifF (et_is (et_test (ev_eq (ev_word rfl hq) ev_c rfl)) n1) ?_
        dsimp only [tNext]
        obtain ⟨p1, p2⟩ := W.popC h _ hd es
        exact s_meth (ev_var rfl) T.obj (mf_no _ _ _ (by simp)) (ea_cons (ev_var rfl) ea_nil) ⟨A, m, h, t, kk, a, rfl, T, ha, es, ⟨p1, by rw [W.ll]; exact p2⟩, W.cell h, W.sl h, W.el, W.fl, W.count, q⟩
    | push v =>
      by_cases ec : (m.hd h).cell = 0
      · refine s_ifT (et_is (et_and (et_test (ev_eq (ev_word rfl hq) ev_c rfl)) fun _ => et_test (ev_eq (eh_cell k O (ev_var rfl)) ev_c rfl)) (by
          have n3 : decide (V.int ((m.hd h).cell : Int) = V.int 0) = true := by rw [ec]; rfl
          rw [n3]
          rfl)) ?_
        have et : m.turn h = (.takes (m.taken v).1, (m.taken v).2.setH h { m.hd h with cell := (m.taken v).1 }) := by unfold M.turn; rw [hd]; exact if_pos ec
        rw [et] at q
        walk_at "q"
        show tMeth _ _ _ _ _ _ _ _ _ _
        refine s_meth (ev_var rfl) T.obj (mf_no _ _ _ (by simp)) (ea_cons (ev_ixT (ev_var rfl) ev_c (SqT.of hq) (atI_nat (j := 1) rfl)) ea_nil) ⟨A, m, v, rfl, T, W.hn, W.wl, by rw [W.ll]; exact W.wl, Nat.le_of_lt W.fl, W.fr, fun H1 T1 C1 => ?_⟩
        show sFld Z.K (tVar 2) (tC (.int (m.taken v).1)) "cell" _ _ _
        have eh : (m.taken v).2.hd h = m.hd h := by
          unfold M.taken
          cases pick m.rule m.marked m.freed <;> rfl
        rw [← M.setH_self (m := (m.taken v).2) (h := h), eh] at T1
        obtain ⟨sv1, O1, S1⟩ := T1.hO ha
        refine sh_cell (n := (m.taken v).1) k T1 ha O1 S1 ev_c (ev_var rfl) fun H2 T2 C2 O2 => ?_
        dsimp only
        exact s_tell (w := .takes (m.taken v).1) T2 (C1.trans C2) (ea_cons ev_c (ea_cons (ev_is (eh_cell k O2 (ev_var rfl)) rfl) ea_nil)) q
      · refine s_ifF (et_is (et_and (et_test (ev_eq (ev_word rfl hq) ev_c rfl)) fun _ => et_test (ev_eq (eh_cell k O (ev_var rfl)) ev_c rfl)) (by
          have n3 : decide (V.int ((m.hd h).cell : Int) = V.int 0) = false := by rw [dec_nat0]; exact decide_eq_false ec
          rw [n3, Bool.and_false])) ?_
        dsimp only [tNext]
        walk_at "q"
        cases es : (m.hd h).seen with
        | none =>
          have et : m.turn h = m.read h (.push v) := by unfold M.turn; rw [hd, es]; exact if_neg ec
          rw [et] at q
          have ev : sv = .non := by
            rw [es] at S
            exact S
          refine s_ifT (et_is (et_test (ev_isN (eh_seen k O (ev_var rfl)))) (by rw [ev]; rfl)) ?_
          dsimp only
          exact s_meth (ev_var rfl) T.obj (mf_no _ _ _ (by simp)) (ea_cons (ev_var rfl) ea_nil) ⟨A, m, h, a, .push v, rfl, T, ha, hd, W.sl h, W.el, q⟩
        | some z =>
          obtain ⟨t, kk⟩ := z
          have et : m.turn h = m.push h t := by unfold M.turn; rw [hd, es]; exact if_neg ec
          rw [et] at q
          have ev : sv ≠ .non := by
            rw [es] at S
            obtain ⟨y, e, _⟩ := S
            rw [e]
            intro z
            cases z
          refine s_ifF (et_is (et_test (ev_isN (eh_seen k O (ev_var rfl)))) (decide_eq_false ev)) ?_
          dsimp only [tNext]
          walk_at "q"
          refine s_ifT (et_is (et_test (ev_eq (ev_word rfl hq) ev_c rfl)) n2) ?_
          dsimp only
          exact s_meth (ev_var rfl) T.obj (mf_no _ _ _ (by simp)) (ea_cons (ev_var rfl) ea_nil) ⟨A, m, h, t, kk, a, rfl, T, ha, es, ⟨W.pushC h v _ hd es, by rw [W.ll]; exact W.cell h⟩, W.sl h, W.el, W.count, q⟩

/-! ### what is told as it stands -/
theorem pure_M_is_stale {Z : Cs} (k : ZOk Z) (vs : List V) (H : Hp) (Q : VK) (E : XK) (h : sp_M_is_stale Z vs H Q E) : t_M_is_stale Z { nx := fun _ H' => Q .non H', rt := Q } (start ["self"] vs) H := by
  obtain ⟨A, m, rfl, T, q⟩ := h
  exact s_ret (em_strayed k T (ev_var rfl)) q
theorem pure_M_answers {Z : Cs} (k : ZOk Z) (vs : List V) (H : Hp) (Q : VK) (E : XK) (h : sp_M_answers Z vs H Q E) : t_M_answers Z { nx := fun _ H' => Q .non H', rt := Q } (start ["self", "hand"] vs) H := by
  obtain ⟨A, m, h, a, rfl, T, ha, q⟩ := h
  obtain ⟨sv, O, S⟩ := T.handO ha
  refine s_meth (ev_var rfl) T.obj (mf_no _ _ _ (by simp)) (ea_cons (ev_var rfl) ea_nil) ⟨A, m, h, a, rfl, T, ha, ?_⟩
  exact ⟨a.h, Z.H, a.dx, _, _, rfl, O, k.clH, k.h_said, hf_said _ _ _, a.said, _, rfl, .inl (SqL.of (T.saidL ha)), q⟩
theorem pure_M_marked {Z : Cs} (k : ZOk Z) (vs : List V) (H : Hp) (Q : VK) (E : XK) (h : sp_M_marked Z vs H Q E) : t_M_marked Z { nx := fun _ H' => Q .non H', rt := Q } (start ["self", "hand"] vs) H := by
  obtain ⟨A, m, h, a, rfl, T, ha, q⟩ := h
  obtain ⟨sv, O, S⟩ := T.handO ha
  refine s_meth (ev_var rfl) T.obj (mf_no _ _ _ (by simp)) (ea_cons (ev_var rfl) ea_nil) ⟨A, m, h, a, rfl, T, ha, ?_⟩
  exact ⟨a.h, Z.H, a.dx, _, _, rfl, O, k.clH, k.h_mark, hf_mark _ _ _, q⟩
theorem pure_M_order {Z : Cs} (k : ZOk Z) (vs : List V) (H : Hp) (Q : VK) (E : XK) (h : sp_M_order Z vs H Q E) : t_M_order Z { nx := fun _ H' => Q .non H', rt := Q } (start ["self"] vs) H := by
  obtain ⟨A, m, rfl, T, q⟩ := h
  obtain ⟨us, L, hu⟩ := T.endsL
  exact e_listOf (em_ends k T (ev_var rfl)) (.inl (SqL.of L)) fun l hl => q l us hl hu
theorem pure_M_free {Z : Cs} (k : ZOk Z) (vs : List V) (H : Hp) (Q : VK) (E : XK) (h : sp_M_free Z vs H Q E) : t_M_free Z { nx := fun _ H' => Q .non H', rt := Q } (start ["self"] vs) H := by
  obtain ⟨A, m, rfl, T, q⟩ := h
  exact e_listOf (em_freed k T (ev_var rfl)) (.inl (SqL.of T.freedL)) q
theorem pure_M_nexts {Z : Cs} (k : ZOk Z) (vs : List V) (H : Hp) (Q : VK) (E : XK) (h : sp_M_nexts Z vs H Q E) : t_M_nexts Z { nx := fun _ H' => Q .non H', rt := Q } (start ["self"] vs) H := by
  obtain ⟨A, m, rfl, T, q⟩ := h
  exact e_listOf (em_links k T (ev_var rfl)) (.inl (SqL.of T.linksL)) q
theorem pure_M_top_now {Z : Cs} (k : ZOk Z) (vs : List V) (H : Hp) (Q : VK) (E : XK) (h : sp_M_top_now Z vs H Q E) : t_M_top_now Z { nx := fun _ H' => Q .non H', rt := Q } (start ["self"] vs) H := by
  obtain ⟨A, m, rfl, T, q⟩ := h
  exact e_tup (ea_cons (em_top k T (ev_var rfl)) (ea_cons (em_count k T (ev_var rfl)) ea_nil)) (by show 2 ≤ 1000; decide) q
end SS

set_option Elab.async false
set_option linter.all false
set_option maxRecDepth 100000
set_option maxHeartbeats 4000000
namespace SS
open PySem L2
local macro_rules | `(tactic| walk_at "q") => `(tactic| ((try dsimp only); refine s_seq ?_))

theorem pigeon : ∀ (L : Nat) (l : List Nat), l.Nodup → (∀ x ∈ l, 1 ≤ x ∧ x ≤ L) → l.length ≤ L
  | 0, [], _, _ => Nat.le_refl _
  | 0, a :: l, _, h => by
    have := h a List.mem_cons_self
    omega
  | L + 1, l, nd, h => by
    have ih := pigeon L (l.erase (L + 1)) (nd.erase _) fun x hx => by
      have h1 := h x (List.mem_of_mem_erase hx)
      have h2 : x ≠ L + 1 := ((nd.mem_erase_iff).mp hx).1
      omega
    rw [List.length_erase] at ih
    split at ih <;> omega
theorem pileFrom_ok (links : List Nat) (hl : ∀ c ∈ links, c ≤ links.length) : ∀ (n : Nat) (found : List Nat) (cell : Nat), (∀ x ∈ found, 1 ≤ x ∧ x ≤ links.length) → cell ≤ links.length → ∀ x ∈ M.pileFrom links n found cell, 1 ≤ x ∧ x ≤ links.length
  | 0, found, cell, hf, _ => hf
  | n + 1, found, cell, hf, hc => by
    unfold M.pileFrom
    split
    · exact hf
    · rename_i h
      refine pileFrom_ok links hl n _ _ (fun x hx => ?_) ?_
      · rcases List.mem_append.mp hx with z | z
        · exact hf x z
        · have e : x = cell := by simpa using z
          rw [e]
          omega
      · rw [List.getD_eq_getElem?_getD]
        cases e : links[cell - 1]? with
        | none => exact Nat.zero_le _
        | some c => exact hl c (List.mem_of_getElem? e)
theorem pileFrom_len (links : List Nat) : ∀ (n : Nat) (found : List Nat) (cell : Nat), (M.pileFrom links n found cell).length ≤ found.length + n
  | 0, found, cell => Nat.le_refl _
  | n + 1, found, cell => by
    unfold M.pileFrom
    split
    · omega
    · have := pileFrom_len links n (found ++ [cell]) (links.getD (cell - 1) 0)
      rw [List.length_append] at this
      simp only [List.length_singleton] at this
      omega
theorem pile_len (m : M) (ok : PileOk m) : m.pile.length ≤ 1001 := by
  have := pileFrom_len m.links (m.links.length + 1) [] m.top
  have h1 := ok.ll
  have h2 := ok.wl
  show (M.pileFrom _ _ _ _).length ≤ _
  simp only [List.length_nil] at this
  omega
theorem pure_M_pile {Z : Cs} (k : ZOk Z) (vs : List V) (H : Hp) (Q : VK) (E : XK) (h : sp_M_pile Z vs H Q E) : t_M_pile Z { nx := fun _ H' => Q .non H', rt := Q } (start ["self", "found", "cell"] vs) H := by
  obtain ⟨A, m, rfl, T, ok, q⟩ := h
  unfold t_M_pile
  walk_at "q"
  refine e_lst ea_nil (by show 0 ≤ 1000; decide) fun l hl => ?_
  have T1 := T.new (o := .lst []) hl
  show ({ nx := _, rt := Q : Ends }).nx _ _
  walk_at "q"
  refine s_asg (em_top k T1 (ev_var rfl)) ?_
  walk_at "q"
  refine s_while (fun s' H' => ∃ (found : List Nat) (cell : Nat), s' = [some (.ref A.p), some (.ref l), some (.int cell)] ∧ Same H H' ∧ H' l = some (.lst (found.map natV)) ∧ found.Nodup ∧ (∀ x ∈ found, 1 ≤ x ∧ x ≤ m.links.length) ∧ cell ≤ m.links.length ∧
      found.length ≤ m.links.length ∧ M.pileFrom m.links (m.links.length + 1 - found.length) found cell = m.pile)
    (fun s' H' => match H' l with | some (.lst xs) => m.links.length + 1 - xs.length | _ => 0)
    ⟨[], m.top, rfl, Same.new hl, upd_same, .nil, (fun x hx => by cases hx), ok.top, Nat.zero_le _, rfl⟩ ?_
  rintro s' H' ⟨found, cell, rfl, c, hL, nd, hf, hc, hlen, hp⟩
  have T' := T.same c
  have test : EvT (tAnd (tTest (tOp rNe (tVar 2) (tC (.int 0)))) (tTest (tOp (rIn Z.K true) (tVar 2) (tVar 1)))) [some (.ref A.p), some (.ref l), some (.int cell)] H' (!decide (cell = 0 ∨ cell ∈ found)) := by
    refine et_is (et_and (et_test (ev_ne (ev_var rfl) ev_c rfl)) fun _ => et_test (ev_inL (ev_var rfl) (ev_var rfl) (SqL.of hL) rfl (flat_nat _))) ?_
    rw [dec_nat0, if_pos rfl, inV_nat, Bool.decide_or, Bool.not_or, List.contains_eq_mem]
  have hn : m.links.length + 1 - found.length = (m.links.length - found.length) + 1 := by omega
  by_cases e : cell = 0 ∨ cell ∈ found
  · left
    refine ⟨et_is test (by rw [decide_eq_true e]; rfl), ?_⟩
    rw [hn, M.pileFrom, if_pos e] at hp
    dsimp only
    exact s_ret (ev_var rfl) (q l H' hl c (by rw [← hp]; exact hL))
  · right
    refine ⟨et_is test (by rw [decide_eq_false e]; rfl), ?_⟩
    rw [hn, M.pileFrom, if_neg e] at hp
    walk_at "q"
    refine s_app (ev_var rfl) hL (ev_var rfl) (by rw [List.length_map]; exact Nat.lt_of_le_of_lt (Nat.le_trans hlen (by rw [ok.ll]; exact ok.wl)) (by decide)) ?_
    have e2 : List.map natV found ++ [V.int cell] = (found ++ [cell]).map natV := by rw [List.map_append]; rfl
    rw [e2]
    have c2 : Same H (upd H' l (.lst ((found ++ [cell]).map natV))) := same_newer c hl
    have T2 := T.same c2
    have h1 : 1 ≤ cell ∧ cell ≤ m.links.length := by omega
    have nd2 : (found ++ [cell]).Nodup := by
      rw [List.nodup_append]
      refine ⟨nd, by simp, fun a ha b hb => ?_⟩
      have : b = cell := by simpa using hb
      rw [this]
      exact fun z => e (.inr (z ▸ ha))
    have hf2 : ∀ x ∈ found ++ [cell], 1 ≤ x ∧ x ≤ m.links.length := fun x hx => by
      rcases List.mem_append.mp hx with z | z
      · exact hf x z
      · have e : x = cell := by simpa using z
        rw [e]
        exact h1
    have hlen2 := pigeon _ _ nd2 hf2
    have hlk : (m.links.map natV)[cell - 1]? = some (natV (m.links.getD (cell - 1) 0)) := by
      rw [List.getElem?_map, List.getD_eq_getElem?_getD, List.getElem?_eq_getElem (by omega)]
      rfl
    dsimp only
    refine s_asg (ev_ixL (em_links k T2 (ev_var rfl)) (ev_sub (ev_var rfl) ev_c) (SqL.of T2.linksL) (atI_pred h1.1 hlk)) ?_
    refine ⟨⟨found ++ [cell], m.links.getD (cell - 1) 0, rfl, c2, upd_same, nd2, hf2, ?_, hlen2, ?_⟩, ?_⟩
    · rw [List.getD_eq_getElem?_getD, List.getElem?_eq_getElem (by omega)]
      exact ok.links _ (List.getElem_mem _)
    · rw [List.length_append]
      show M.pileFrom _ (m.links.length + 1 - (found.length + 1)) _ _ = _
      rw [show m.links.length + 1 - (found.length + 1) = m.links.length - found.length by omega]
      exact hp
    · rw [hL]
      simp only [upd_same, List.length_map, List.length_append, List.length_singleton]
      have : (found ++ [cell]).length = found.length + 1 := by simp
      omega
theorem pure_M_pile_values {Z : Cs} (k : ZOk Z) (vs : List V) (H : Hp) (Q : VK) (E : XK) (h : sp_M_pile_values Z vs H Q E) : t_M_pile_values Z { nx := fun _ H' => Q .non H', rt := Q } (start ["self", "cell"] vs) H := by
  obtain ⟨A, m, rfl, T, ok, q⟩ := h
  unfold t_M_pile_values
  show tMeth _ _ _ _ _ _ _ _ _ _
  refine s_meth (ev_var rfl) T.obj (mf_no _ _ _ (by simp)) ea_nil ⟨A, m, rfl, T, ok, fun l H1 hl c hL => ?_⟩
  refine e_lcL (tl := tC (.ref l)) (H := H1) ev_c (SqL.of hL) (fun D i H' => Same H1 H' ∧ H' D = some (.lst (((m.pile.take i).map fun c => m.worths.getD (c - 1) 0).map V.int)))
    (fun D hD => ⟨Same.new hD, upd_same⟩) (fun D i H' _ _ p => SqL.of (p.1 _ _ hL)) (fun D i x H' hx hD p => ?_) (fun D H' hD p => ?_)
  · obtain ⟨cell, hc, rfl⟩ := map_get hx
    have T' := (T.same c).same p.1
    have hb := pileFrom_ok m.links ok.links (m.links.length + 1) [] m.top (fun x hx => by cases hx) ok.top cell (List.mem_of_getElem? hc)
    have hw : (m.worths.map V.int)[cell - 1]? = some (.int (m.worths.getD (cell - 1) 0)) := by
      have := ok.ll
      rw [List.getElem?_map, List.getD_eq_getElem?_getD, List.getElem?_eq_getElem (by omega)]
      rfl
    refine ⟨rfl, et_yes _ (iteT (ev_ixL (em_worths k T' (ev_var rfl)) (ev_sub (ev_var rfl) ev_c) (SqL.of T'.worthsL) (atI_pred hb.1 hw) _ ⟨_, p.2, ?_, same_newer p.1 hD, ?_⟩))⟩
    · rw [List.length_map, List.length_map, List.length_take]
      have hi := (List.getElem?_eq_some_iff.mp hc).1
      have hpl : m.pile.length ≤ 1001 := pile_len m ok
      exact Nat.lt_of_le_of_lt (Nat.le_trans (Nat.min_le_right _ _) hpl) (by decide)
    · rw [upd_same, take_snoc hc, List.map_append, List.map_append]
      rfl
  · have c2 : Same H H' := fun b o e => p.1 b o (c b o e)
    refine q D H' ?_ c2 ?_
    · cases e : H D with
      | none => rfl
      | some o =>
        have := c D o e
        rw [hD] at this
        cases this
    · rw [p.2, List.length_map, List.take_length]
      rfl
end SS

set_option Elab.async false
set_option linter.all false
set_option maxRecDepth 100000
set_option maxHeartbeats 4000000
namespace SS
open PySem L2
local macro_rules | `(tactic| walk_at "q") => `(tactic| ((try dsimp only); refine s_seq ?_))

/-! ### data of ints -/
theorem shaped_ints (l : List Int) : SeqAt.shaped (.list (l.map PyData.int)) = true := by
  have h1 : ∀ l : List Int, PyData.canLayAll0 (l.map PyData.int) = true := by
    intro l
    induction l with
    | nil => rfl
    | cons a l ih => simp [PyData.canLayAll0, PyData.canLay0, ih]
  have h2 : ∀ l : List Int, PyData.depthAll (l.map PyData.int) = 0 := by
    intro l
    induction l with
    | nil => rfl
    | cons a l ih => simp [PyData.depthAll, PyData.depth, ih]
  simp [SeqAt.shaped, PyData.canLay0, PyData.depth, h1, h2]
theorem dp_ints {K : PySem.W.Frag} {H : Hp} : ∀ l : List Int, DpAll K H (l.map V.int) (l.map PyData.int)
  | [] => .nil
  | a :: l => .cons (.int a) (dp_ints l)
theorem filter_snoc {p : Nat → Bool} (i : Nat) : (List.range (i + 1)).filter p = (List.range i).filter p ++ (if p i then [i] else []) := by
  rw [List.range_succ, List.filter_append]
  congr 1
  cases h : p i <;> simp [h]
theorem pure_M_is_done {Z : Cs} (k : ZOk Z) (vs : List V) (H : Hp) (Q : VK) (E : XK) (h : sp_M_is_done Z vs H Q E) : t_M_is_done Z { nx := fun _ H' => Q .non H', rt := Q } (start ["self", "hand"] vs) H := by
  obtain ⟨A, m, rfl, T, hn, q⟩ := h
  unfold t_M_is_done
  refine s_ret_of (t_op_of ?_)
  refine e_lcR (n := m.hands.length) (ev_is (ev_lenL (em_hands k T (ev_var rfl)) (SqL.of T.handsLL)) (by rw [List.length_map, T.hs])) (by omega)
    (fun D i H' => Same H H' ∧ H' D = some (.lst (((List.range i).filter fun h => !m.rests h).map natV))) (fun D hD => ⟨Same.new hD, upd_same⟩) (fun D i H' hi hD p => ?_) (fun D H' hD p => ?_)
  · obtain ⟨a, ha⟩ := T.hand_of hi
    have T' := T.same p.1
    refine ⟨rfl, ?_⟩
    show tMeth _ _ _ _ _ _ _ _ _ _
    refine s_meth (ev_var rfl) T'.obj (mf_no _ _ _ (by simp)) (ea_cons (ev_var rfl) ea_nil) ⟨A, m, i, a, rfl, T', ha, ⟨_, rfl, ?_⟩⟩
    cases e : m.rests i with
    | true =>
      refine iteF ⟨p.1, ?_⟩
      rw [p.2, filter_snoc, e]
      simp
    | false =>
      refine iteT (ev_var rfl _ ⟨_, p.2, ?_, same_newer p.1 hD, ?_⟩)
      · rw [List.length_map]
        refine Nat.lt_of_le_of_lt (List.length_filter_le _ _) ?_
        rw [List.length_range]
        exact Nat.lt_of_lt_of_le hi (Nat.le_trans hn (by decide))
      · rw [upd_same, filter_snoc, e]
        simp
  · refine e_lst ea_nil (by show 0 ≤ 1000; decide) fun l hl => ?_
    have hD2 : upd H' l (.lst []) D = some (.lst (((List.range m.hands.length).filter fun h => !m.rests h).map natV)) := Same.new hl _ _ p.2
    refine ⟨.list ((((List.range m.hands.length).filter fun h => !m.rests h).map Int.ofNat).map PyData.int), .list [], .lst (SqL.of (by rw [hD2, natV_int])) (dp_ints _), .lst (SqL.of upd_same) .nil, shaped_ints _, rfl, ?_⟩
    have e : PyData.eqv (.list ((((List.range m.hands.length).filter fun h => !m.rests h).map Int.ofNat).map PyData.int)) (.list []) = m.isDone := by
      unfold M.isDone
      have e1 : ∀ xs : List Int, PyData.eqv (.list (xs.map PyData.int)) (.list []) = xs.isEmpty := by
        intro xs
        cases xs <;> rfl
      rw [e1]
      by_cases h : (List.range m.hands.length).all m.rests = true
      · rw [h, List.isEmpty_iff, List.map_eq_nil_iff, List.filter_eq_nil_iff]
        intro a ha
        rw [List.all_eq_true] at h
        simp [h a ha]
      · have h' : (List.range m.hands.length).all m.rests = false := by simpa using h
        rw [h']
        cases e : (List.map Int.ofNat ((List.range m.hands.length).filter fun h => !m.rests h)).isEmpty with
        | false => rfl
        | true =>
          rw [List.isEmpty_iff, List.map_eq_nil_iff, List.filter_eq_nil_iff] at e
          exact absurd (List.all_eq_true.mpr fun a ha => by simpa using e a ha) h
    rw [e]
    exact q _ (same_newer p.1 (by
      cases z : H l with
      | none => rfl
      | some o =>
        have := p.1 l o z
        rw [hl] at this
        cases this))

/-! ### what is refused: nothing here -/
theorem pure_need_values {Z : Cs} (k : ZOk Z) (vs : List V) (H : Hp) (Q : VK) (E : XK) (h : sp_need_values Z vs H Q E) : t_need_values Z { nx := fun _ H' => Q .non H', rt := Q } (start ["values", "at"] vs) H := by
  obtain ⟨a, ns, rfl, L, hn, hv, q⟩ := h
  unfold t_need_values
  walk_at "q"
  refine s_ifF (et_is (et_test (ev_gt (ev_lenL (ev_var rfl) L) ev_c)) (by rw [List.length_map]; exact decide_eq_false (by omega))) ?_
  dsimp only [tNext]
  refine s_forR (n := ns.length) (ev_is (ev_lenL (ev_var rfl) L) (by rw [List.length_map])) (by omega) (fun i s' H' => H' = H ∧ ∃ w, s' = [some (.ref a), w]) ⟨rfl, none, rfl⟩ ?_ ?_
  · rintro i s' H' hi ⟨rfl, w, rfl⟩
    obtain ⟨n, hn⟩ : ∃ n, ns[i]? = some n := ⟨_, List.getElem?_eq_getElem hi⟩
    obtain ⟨h1, h2⟩ := hv n (List.mem_of_getElem? hn)
    have hat : atI (ns.map V.int) (i : Int) = some (.int n) := atI_nat (by rw [List.getElem?_map, hn] <;> rfl)
    refine s_ifF (et_is (et_not (et_test (ev_leLe ev_c (ev_ixL (ev_var rfl) (ev_var rfl) L hat) ev_c))) ?_) ⟨rfl, _, rfl⟩
    rw [decide_eq_true h1, decide_eq_true h2]
    rfl
  · rintro s' H' ⟨rfl, w, rfl⟩
    exact q
theorem pure_is_deed {Z : Cs} (k : ZOk Z) (vs : List V) (H : Hp) (Q : VK) (E : XK) (h : sp_is_deed Z vs H Q E) : t_is_deed Z { nx := fun _ H' => Q .non H', rt := Q } (start ["deed"] vs) H := by
  obtain ⟨v, d, rfl, ⟨p, rfl, hq⟩, hv, q⟩ := h
  unfold t_is_deed
  walk_at "q"
  have n1 : decide (V.str "push" = V.str "pop") = false := by decide +kernel
  have n2 : decide (V.str "push" = V.str "push") = true := decide_eq_true rfl
  have n3 : decide (V.str "pop" = V.str "pop") = true := decide_eq_true rfl
  cases d with
  | pop =>
    refine s_ifF (et_is (et_test (ev_eq (ev_lenT (ev_var rfl) (SqT.of hq)) ev_c rfl)) rfl) ?_
    dsimp only [tNext]
    walk_at "q"
    refine s_ifT (et_is (et_test (ev_eq (ev_word rfl hq) ev_c rfl)) n3) ?_
    dsimp only
    exact s_ret (ev_is (ev_eq (ev_lenT (ev_var rfl) (SqT.of hq)) ev_c rfl) rfl) q
  | push x =>
    refine s_ifF (et_is (et_test (ev_eq (ev_lenT (ev_var rfl) (SqT.of hq)) ev_c rfl)) rfl) ?_
    dsimp only [tNext]
    walk_at "q"
    refine s_ifF (et_is (et_test (ev_eq (ev_word rfl hq) ev_c rfl)) n1) ?_
    dsimp only [tNext]
    refine s_ret (ev_is (ev_andV (ev_eq (ev_word rfl hq) ev_c rfl) fun _ => ev_andV (ev_eq (ev_lenT (ev_var rfl) (SqT.of hq)) ev_c rfl) fun _ => ev_leLe ev_c (ev_ixT (ev_var rfl) ev_c (SqT.of hq) (atI_nat (j := 1) rfl)) ev_c) ?_) q
    rw [n2, decide_eq_true hv.1, decide_eq_true hv.2]
    rfl
theorem pure_need_deeds {Z : Cs} (k : ZOk Z) (vs : List V) (H : Hp) (Q : VK) (E : XK) (h : sp_need_deeds Z vs H Q E) : t_need_deeds Z { nx := fun _ H' => Q .non H', rt := Q } (start ["deeds", "hand", "number"] vs) H := by
  obtain ⟨v, hh, ds, rfl, ⟨p, us, rfl, hp, hu⟩, hn, hv, q⟩ := h
  unfold t_need_deeds
  refine s_forR (n := ds.length) (ev_is (ev_lenL (ev_var rfl) (SqL.of hp)) (by rw [hu.length])) (by omega) (fun i s' H' => H' = H ∧ ∃ w, s' = [some (.ref p), some (.int hh), w]) ⟨rfl, none, rfl⟩ ?_ ?_
  · rintro i s' H' hi ⟨rfl, w, rfl⟩
    obtain ⟨d, hd⟩ : ∃ d, ds[i]? = some d := ⟨_, List.getElem?_eq_getElem hi⟩
    obtain ⟨u, hui, hdu⟩ := hu.get i hd
    refine s_if_of ?_
    show tCall _ _ _ _ _ _ _
    refine s_call (ea_cons (ev_ixL (ev_var rfl) (ev_var rfl) (SqL.of hp) (atI_nat hui)) ea_nil) ⟨u, d, rfl, hdu, hv d (List.mem_of_getElem? hd), ⟨_, rfl, ?_⟩⟩
    exact iteF ⟨rfl, _, rfl⟩
  · rintro s' H' ⟨rfl, w, rfl⟩
    exact q
theorem pure_need_programs {Z : Cs} (k : ZOk Z) (vs : List V) (H : Hp) (Q : VK) (E : XK) (h : sp_need_programs Z vs H Q E) : t_need_programs Z { nx := fun _ H' => Q .non H', rt := Q } (start ["programs", "hand"] vs) H := by
  obtain ⟨l, ps, rfl, ⟨us, L, hu⟩, ⟨h1, h2⟩, h4, hv, q⟩ := h
  unfold t_need_programs
  walk_at "q"
  have hl := hu.length
  refine s_ifF (et_is (et_not (et_test (ev_leLe ev_c (ev_lenL (ev_var rfl) L) ev_c))) ?_) ?_
  · rw [hl, decide_eq_true (show (1 : Int) ≤ (ps.length : Int) by omega), decide_eq_true (show (ps.length : Int) ≤ 3 by omega)]
    rfl
  dsimp only [tNext]
  refine s_forR (n := ps.length) (ev_is (ev_lenL (ev_var rfl) L) (by rw [hl])) (by omega) (fun i s' H' => H' = H ∧ ∃ w, s' = [some (.ref l), w]) ⟨rfl, none, rfl⟩ ?_ ?_
  · rintro i s' H' hi ⟨rfl, w, rfl⟩
    obtain ⟨d, hd⟩ : ∃ d, ps[i]? = some d := ⟨_, List.getElem?_eq_getElem hi⟩
    obtain ⟨u, hui, p, vs', rfl, hp, hdu⟩ := hu.get i hd
    have m := List.mem_of_getElem? hd
    walk_at "q"
    refine s_ifF (et_is (et_test (ev_gt (ev_lenL (ev_ixL (ev_var rfl) (ev_var rfl) L (atI_nat hui)) (SqL.of hp)) ev_c)) ?_) ?_
    · rw [hdu.length]
      have := h4 d m
      exact decide_eq_false (by omega)
    dsimp only [tNext]
    refine s_drop' (s_call (ea_cons (ev_ixL (ev_var rfl) (ev_var rfl) L (atI_nat hui)) (ea_cons (ev_var rfl) ea_nil)) ⟨_, i, d, rfl, ⟨p, vs', rfl, hp, hdu⟩, ?_, hv d m, ⟨rfl, _, rfl⟩⟩)
    have := h4 d m
    omega
  · rintro s' H' ⟨rfl, w, rfl⟩
    exact q
end SS

set_option Elab.async false
set_option linter.all false
set_option maxRecDepth 100000
set_option maxHeartbeats 4000000
namespace SS
open PySem L2
local macro_rules | `(tactic| walk_at "q") => `(tactic| ((try dsimp only); refine s_seq ?_))

theorem rising_get : ∀ {l : List Nat} {i a b : Nat}, rising l → l[i]? = some a → l[i + 1]? = some b → a < b
  | [], i, a, b, _, h, _ => by simp at h
  | [x], i, a, b, _, _, h => by simp at h
  | x :: y :: l, 0, a, b, hr, h1, h2 => by
    have e1 : x = a := Option.some.inj h1
    have e2 : y = b := Option.some.inj h2
    subst e1 e2
    exact hr.1
  | x :: y :: l, i + 1, a, b, hr, h1, h2 => rising_get (l := y :: l) (i := i) hr.2 (by simpa using h1) (by simpa using h2)
theorem natI (l : List Nat) : (l.map Int.ofNat).map V.int = l.map natV := (natV_int l).symm
def ruleD : Rule → PyData
  | .counts m => .tuple [.str "counts", .int m]
  | .marks hs => .tuple [.str "marks", .tuple ((hs.map Int.ofNat).map PyData.int)]
  | .keeps => .tuple [.str "keeps"]
theorem canLay_ints : ∀ l : List Int, PyData.canLayAll0 (l.map PyData.int) = true := by
  intro l
  induction l with
  | nil => rfl
  | cons a l ih => simp [PyData.canLayAll0, PyData.canLay0, ih]
theorem depth_ints : ∀ l : List Int, PyData.depthAll (l.map PyData.int) = 0 := by
  intro l
  induction l with
  | nil => rfl
  | cons a l ih => simp [PyData.depthAll, PyData.depth, ih]
theorem ruleD_shaped : ∀ r : Rule, SeqAt.shaped (ruleD r) = true
  | .counts m => by
    simp only [ruleD, SeqAt.shaped, PyData.canLay0, PyData.canLayAll0, PyData.depth, PyData.depthAll]
    decide +kernel
  | .keeps => by decide +kernel
  | .marks hs => by
    simp only [ruleD, SeqAt.shaped, PyData.canLay0, PyData.canLayAll0, PyData.depth, PyData.depthAll, canLay_ints, depth_ints]
    decide +kernel
theorem ruleDp {K : PySem.W.Frag} {H : Hp} {a : Addr} : ∀ {r : Rule}, RuleAt H a r → Dp K H (.ref a) (ruleD r)
  | .counts m, h => .tup (SqT.of h) (.cons (.str _) (.cons (.int _) .nil))
  | .keeps, h => .tup (SqT.of h) (.cons (.str _) .nil)
  | .marks hs, ⟨t, h1, h2⟩ => .tup (SqT.of h1) (.cons (.str _) (.cons (.tup (SqT.of h2) (by rw [natV_int]; exact dp_ints _)) .nil))
theorem ruleD_keeps (r : Rule) : PyData.eqv (ruleD r) (.tuple [.str "keeps"]) = decide (r = .keeps) := by
  cases r with
  | counts m =>
    have : PyData.eqv (ruleD (.counts m)) (.tuple [.str "keeps"]) = (PyData.eqv (.str "counts") (.str "keeps") && false) := rfl
    rw [this, Bool.and_false]
    rfl
  | marks hs =>
    have : PyData.eqv (ruleD (.marks hs)) (.tuple [.str "keeps"]) = (PyData.eqv (.str "marks") (.str "keeps") && false) := rfl
    rw [this, Bool.and_false]
    rfl
  | keeps => decide +kernel
theorem pure_need_rule {Z : Cs} (k : ZOk Z) (vs : List V) (H : Hp) (Q : VK) (E : XK) (h : sp_need_rule Z vs H Q E) : t_need_rule Z { nx := fun _ H' => Q .non H', rt := Q } (start ["rule", "many", "at"] vs) H := by
  obtain ⟨a, r, many, rfl, R, ok, q⟩ := h
  unfold t_need_rule
  walk_at "q"
  refine s_if_of (t_test_of (t_op_of (ev_var rfl _ (e_tup (ea_cons ev_c ea_nil) (by show 1 ≤ 1000; decide) fun p hp => ?_))))
  have c1 : Same H (upd H p (.tup [.str "keeps"])) := Same.new hp
  have R1 := R.mono (H' := upd H p (.tup [.str "keeps"])) fun b xs e => c1 _ _ e
  refine ⟨ruleD r, .tuple [.str "keeps"], ruleDp R1, .tup (SqT.of upd_same) (.cons (.str _) .nil), ruleD_shaped r, (by decide +kernel), ⟨_, rfl, ?_⟩⟩
  rw [ruleD_keeps]
  by_cases ek : r = .keeps
  · rw [decide_eq_true ek]
    refine iteT ?_
    exact q _ c1
  rw [decide_eq_false ek]
  refine iteF ?_
  dsimp only [tNext]
  obtain ⟨xs, hR, hat⟩ := ruleW _ a r R1
  have hlen : xs.length = 2 := by
    cases r with
    | counts m =>
      have := hR.symm.trans R1
      cases this
      rfl
    | marks hs =>
      obtain ⟨t, h1, _⟩ := R1
      have := hR.symm.trans h1
      cases this
      rfl
    | keeps => exact absurd rfl ek
  walk_at "q"
  refine s_if_of ?_
  refine (et_test (ev_is (ev_ne (ev_lenT (ev_var rfl) (SqT.of hR)) ev_c rfl) (by rw [hlen] <;> rfl))) _ ?_
  refine iteF ?_
  refine t_test_of (t_op_of ?_)
  refine (ev_ixT (ev_var rfl) ev_c (SqT.of hR) hat) _ (e_tup (ea_cons ev_c (ea_cons ev_c ea_nil)) (by show 2 ≤ 1000; decide) fun p2 hp2 => ?_)
  have c2 := same_newer (D := p2) (o := .tup [.str "counts", .str "marks"]) c1 (by
    cases z : H p2 with
    | none => rfl
    | some o =>
      have := c1 p2 o z
      rw [hp2] at this
      cases this)
  have c12 : Same (upd H p (.tup [.str "keeps"])) (upd (upd H p (.tup [.str "keeps"])) p2 (.tup [.str "counts", .str "marks"])) := Same.new hp2
  have R2 := R1.mono fun b xs e => c12 _ _ e
  refine ⟨p2, _, rfl, .inr (SqT.of upd_same), rfl, rfl, ⟨_, rfl, ?_⟩⟩
  have hin : inV (V.str r.word) [.str "counts", .str "marks"] = true := by
    cases r with
    | counts m => exact (by decide +kernel : inV (V.str "counts") [.str "counts", .str "marks"] = true)
    | marks hs => exact (by decide +kernel : inV (V.str "marks") [.str "counts", .str "marks"] = true)
    | keeps => exact absurd rfl ek
  rw [if_pos rfl, hin]
  refine iteF ?_
  dsimp only [tNext]
  cases r with
  | keeps => exact absurd rfl ek
  | counts m =>
    have R3 := R2
    simp only [RuleAt] at R3
    refine s_ifT (et_is (et_test (ev_eq (ev_ixT (ev_var rfl) ev_c (SqT.of R3) (atI_nat (j := 0) rfl)) ev_c rfl)) (decide_eq_true rfl)) ?_
    refine s_ifF (et_is (et_not (et_test (ev_leLe ev_c (ev_ixT (ev_var rfl) ev_c (SqT.of R3) (atI_nat (j := 1) rfl)) ev_c))) ?_) (q _ c2)
    obtain ⟨h1, h2⟩ := ok
    rw [decide_eq_true (show (1 : Int) ≤ (m : Int) by omega), decide_eq_true (show (m : Int) ≤ 15 by omega)]
    rfl
  | marks hs =>
    obtain ⟨t, R3, R4⟩ := R2
    obtain ⟨h1, h2, h3⟩ := ok
    refine s_ifF (et_is (et_test (ev_eq (ev_ixT (ev_var rfl) ev_c (SqT.of R3) (atI_nat (j := 0) rfl)) ev_c rfl)) (by decide +kernel)) ?_
    have e1 : ∀ {s : L2.St}, s[0]? = some (some (.ref a)) → Ev (tOp (rIxT Z.K) (tVar 0) (tC (.int 1))) s (upd (upd H p (.tup [.str "keeps"])) p2 (.tup [.str "counts", .str "marks"])) (.ref t) := fun h => ev_ixT (ev_var h) ev_c (SqT.of R3) (atI_nat (j := 1) rfl)
    refine s_forR (n := hs.length) (ev_is (ev_lenT (e1 rfl) (SqT.of R4)) (by rw [List.length_map])) (by omega)
      (fun i s' H' => H' = (upd (upd H p (.tup [.str "keeps"])) p2 (.tup [.str "counts", .str "marks"])) ∧ ∃ w, s' = [some (.ref a), some (.int many), w]) ⟨rfl, none, rfl⟩ ?_ ?_
    · rintro i s' H' hi ⟨rfl, w, rfl⟩
      obtain ⟨x, hx⟩ : ∃ x, hs[i]? = some x := ⟨_, List.getElem?_eq_getElem hi⟩
      have hxm := h1 x (List.mem_of_getElem? hx)
      have hv : (hs.map natV)[i]? = some (natV x) := by rw [List.getElem?_map, hx] <;> rfl
      refine s_ifF (et_is (et_or (et_not (et_test (ev_leLt ev_c (ev_ixT (e1 rfl) (ev_var rfl) (SqT.of R4) (atI_nat hv)) (ev_var rfl)))) fun _ =>
        (show EvT (tAnd _ _) _ _ false from ?_)) ?_) ⟨rfl, _, rfl⟩
      · by_cases e0 : i = 0
        · subst e0
          exact et_is (et_and (b := true) (et_test (ev_gt (ev_var rfl) ev_c)) fun e => absurd e (by decide)) rfl
        · obtain ⟨y, hy⟩ : ∃ y, hs[i - 1]? = some y := ⟨_, List.getElem?_eq_getElem (by omega)⟩
          have hlt : y < x := rising_get h2 hy (by rw [show i - 1 + 1 = i by omega]; exact hx)
          have hvy : (hs.map natV)[i - 1]? = some (natV y) := by rw [List.getElem?_map, hy] <;> rfl
          refine et_is (et_and (et_test (ev_gt (ev_var rfl) ev_c)) fun _ => et_test (ev_le (ev_ixT (e1 rfl) (ev_var rfl) (SqT.of R4) (atI_nat hv)) (ev_ixT (e1 rfl) (ev_sub (ev_var rfl) ev_c) (SqT.of R4) (atI_pred (by omega) hvy)))) ?_
          rw [decide_eq_false (show ¬ (x : Int) ≤ (y : Int) by omega), Bool.and_false]
      · rw [decide_eq_true (show (0 : Int) ≤ (x : Int) by omega), decide_eq_true (show (x : Int) < (many : Int) by omega)]
        rfl
    · rintro s' H' ⟨rfl, w, rfl⟩
      exact q _ c2
end SS

set_option Elab.async false
set_option linter.all false
set_option maxRecDepth 100000
set_option maxHeartbeats 4000000
namespace SS
open PySem L2
local macro_rules | `(tactic| walk_at "q") => `(tactic| ((try dsimp only); refine s_seq ?_))

/-! ### the attributes as they come -/
theorem hp1 (v : V) : putF ("program" : Str) v ([] : List (Str × V)) = ([("program", v)] : List (Str × V)) := by kernel_rfl
theorem hp2 (a v : V) : putF ("at" : Str) v ([("program", a)] : List (Str × V)) = ([("program", a), ("at", v)] : List (Str × V)) := by kernel_rfl
theorem hp3 (a b v : V) : putF ("cell" : Str) v ([("program", a), ("at", b)] : List (Str × V)) = ([("program", a), ("at", b), ("cell", v)] : List (Str × V)) := by kernel_rfl
theorem hp4 (a b c v : V) : putF ("seen" : Str) v ([("program", a), ("at", b), ("cell", c)] : List (Str × V)) = ([("program", a), ("at", b), ("cell", c), ("seen", v)] : List (Str × V)) := by kernel_rfl
theorem hp5 (a b c d v : V) : putF ("follow" : Str) v ([("program", a), ("at", b), ("cell", c), ("seen", d)] : List (Str × V)) = ([("program", a), ("at", b), ("cell", c), ("seen", d), ("follow", v)] : List (Str × V)) := by kernel_rfl
theorem hp6 (a b c d e v : V) : putF ("mark" : Str) v ([("program", a), ("at", b), ("cell", c), ("seen", d), ("follow", e)] : List (Str × V)) = ([("program", a), ("at", b), ("cell", c), ("seen", d), ("follow", e), ("mark", v)] : List (Str × V)) := by kernel_rfl
theorem hp7 (a b c d e f v : V) : putF ("looked" : Str) v ([("program", a), ("at", b), ("cell", c), ("seen", d), ("follow", e), ("mark", f)] : List (Str × V)) = ([("program", a), ("at", b), ("cell", c), ("seen", d), ("follow", e), ("mark", f), ("looked", v)] : List (Str × V)) := by kernel_rfl
theorem hp8 (a b c d e f g v : V) : putF ("said" : Str) v ([("program", a), ("at", b), ("cell", c), ("seen", d), ("follow", e), ("mark", f), ("looked", g)] : List (Str × V)) = ([("program", a), ("at", b), ("cell", c), ("seen", d), ("follow", e), ("mark", f), ("looked", g), ("said", v)] : List (Str × V)) := by kernel_rfl
theorem mp1 (v : V) : putF ("rule" : Str) v ([] : List (Str × V)) = ([("rule", v)] : List (Str × V)) := by kernel_rfl
theorem mp2 (a v : V) : putF ("worths" : Str) v ([("rule", a)] : List (Str × V)) = ([("rule", a), ("worths", v)] : List (Str × V)) := by kernel_rfl
theorem mp3 (a b v : V) : putF ("links" : Str) v ([("rule", a), ("worths", b)] : List (Str × V)) = ([("rule", a), ("worths", b), ("links", v)] : List (Str × V)) := by kernel_rfl
theorem mp4 (a b c v : V) : putF ("top" : Str) v ([("rule", a), ("worths", b), ("links", c)] : List (Str × V)) = ([("rule", a), ("worths", b), ("links", c), ("top", v)] : List (Str × V)) := by kernel_rfl
theorem mp5 (a b c d v : V) : putF ("count" : Str) v ([("rule", a), ("worths", b), ("links", c), ("top", d)] : List (Str × V)) = ([("rule", a), ("worths", b), ("links", c), ("top", d), ("count", v)] : List (Str × V)) := by kernel_rfl
theorem mp6 (a b c d e v : V) : putF ("freed" : Str) v ([("rule", a), ("worths", b), ("links", c), ("top", d), ("count", e)] : List (Str × V)) = ([("rule", a), ("worths", b), ("links", c), ("top", d), ("count", e), ("freed", v)] : List (Str × V)) := by kernel_rfl
theorem mp7 (a b c d e f v : V) : putF ("hands" : Str) v ([("rule", a), ("worths", b), ("links", c), ("top", d), ("count", e), ("freed", f)] : List (Str × V)) = ([("rule", a), ("worths", b), ("links", c), ("top", d), ("count", e), ("freed", f), ("hands", v)] : List (Str × V)) := by kernel_rfl
theorem mp8 (a b c d e f g v : V) : putF ("ends" : Str) v ([("rule", a), ("worths", b), ("links", c), ("top", d), ("count", e), ("freed", f), ("hands", g)] : List (Str × V)) = ([("rule", a), ("worths", b), ("links", c), ("top", d), ("count", e), ("freed", f), ("hands", g), ("ends", v)] : List (Str × V)) := by kernel_rfl
theorem mp9 (a b c d e f g h v : V) : putF ("strayed" : Str) v ([("rule", a), ("worths", b), ("links", c), ("top", d), ("count", e), ("freed", f), ("hands", g), ("ends", h)] : List (Str × V)) = ([("rule", a), ("worths", b), ("links", c), ("top", d), ("count", e), ("freed", f), ("hands", g), ("ends", h), ("strayed", v)] : List (Str × V)) := by kernel_rfl

/-- all but p stands -/
abbrev But (p : Addr) (H H' : Hp) : Prop := ∀ b o, H b = some o → b ≠ p → H' b = some o
theorem But.put {p : Addr} {H H' : Hp} (c : But p H H') {o : HO} : But p H (upd H' p o) := fun b u e n => by rw [upd_ne n]; exact c b u e n
theorem But.new {p q : Addr} {H H' : Hp} (c : But p H H') {o : HO} (h : H' q = none) : But p H (upd H' q o) := fun b u e n => by
  rw [upd_ne (ne_of_none (c b u e n) h)]
  exact c b u e n
theorem But.same {p : Addr} {H H' H2 : Hp} (c : But p H H') (d : Same H' H2) : But p H H2 := fun b u e n => d _ _ (c b u e n)
theorem But.free {p q : Addr} {H H' : Hp} (c : But p H H') {o : HO} (hp : H' p = some o) (h : H' q = none) : H q = none := by
  cases z : H q with
  | none => rfl
  | some u =>
    have hq : q ≠ p := fun e => by rw [e, hp] at h; cases h
    have := c q u z hq
    rw [h] at this
    cases this
/-- a field of a young object is stored -/
theorem s_young {Z : Cs} {s : L2.St} {H : Hp} {D : Ends} {ta te : TE} {C p dx : Addr} {fs fs' : List (Str × V)} {f : Str} {v : V} (ha : Ev ta s H (.ref p)) (h : H p = some (.ins C dx fs)) (c : Cls Z.K C) (n : NoAttr Z.K C f) (hl : fs.length < 1000) (e : putF f v fs = fs')
    (hv : Ev te s H v) (k : D.nx s (upd H p (.ins C dx fs'))) : sFld Z.K ta te f D s H := s_fld hv ha h c n hl (by rw [e]; exact k)
theorem pure_H_init {Z : Cs} (k : ZOk Z) (vs : List V) (H : Hp) (Q : VK) (E : XK) (h : sp_H_init Z vs H Q E) : t_H_init Z { nx := fun _ H' => Q .non H', rt := Q } (start ["self", "program"] vs) H := by
  obtain ⟨p, dx, l, us, ds, rfl, hp, hL, hd, q⟩ := h
  unfold t_H_init
  walk_at "q"
  refine e_listOf (ev_var rfl) (.inl (SqL.of hL)) fun l1 hl1 => ?_
  have p1 := Same.new (o := .lst us) hl1 _ _ hp
  show sFld Z.K (tVar 0) (tC (.ref l1)) "program" _ _ _
  refine s_young (Z := Z) (ev_var rfl) p1 k.clH k.h_program (by decide) (hp1 _) ev_c ?_
  walk_at "q"
  refine s_young (Z := Z) (ev_var rfl) upd_same k.clH k.h_at (by simp) (hp2 _ _) ev_c ?_
  walk_at "q"
  refine s_young (Z := Z) (ev_var rfl) upd_same k.clH k.h_cell (by simp) (hp3 _ _ _) ev_c ?_
  walk_at "q"
  refine s_young (Z := Z) (ev_var rfl) upd_same k.clH k.h_seen (by simp) (hp4 _ _ _ _) ev_c ?_
  walk_at "q"
  refine s_young (Z := Z) (ev_var rfl) upd_same k.clH k.h_follow (by simp) (hp5 _ _ _ _ _) ev_c ?_
  walk_at "q"
  refine s_young (Z := Z) (ev_var rfl) upd_same k.clH k.h_mark (by simp) (hp6 _ _ _ _ _ _) ev_c ?_
  walk_at "q"
  refine s_young (Z := Z) (ev_var rfl) upd_same k.clH k.h_looked (by simp) (hp7 _ _ _ _ _ _ _) ev_c ?_
  rw [upd_upd, upd_upd, upd_upd, upd_upd, upd_upd, upd_upd]
  dsimp only
  refine e_lst ea_nil (by show 0 ≤ 1000; decide) fun l2 hl2 => ?_
  have c1 : But p H (upd H l1 (.lst us)) := But.new (fun _ _ e _ => e) hl1
  have c2 := c1.put (o := .ins Z.H dx ([("program", V.ref l1), ("at", V.int 0), ("cell", V.int 0), ("seen", V.non), ("follow", V.non), ("mark", V.int 0), ("looked", V.bl false)] : List (Str × V)))
  have c3 := c2.new (o := .lst []) hl2
  have npl1 : p ≠ l1 := ne_of_none hp hl1
  have e1 : upd (upd H l1 (.lst us)) p (.ins Z.H dx ([("program", V.ref l1), ("at", V.int 0), ("cell", V.int 0), ("seen", V.non), ("follow", V.non), ("mark", V.int 0), ("looked", V.bl false)] : List (Str × V))) l1 = some (.lst us) := by
    rw [upd_ne npl1.symm]
    exact upd_same
  have nl12 : l1 ≠ l2 := ne_of_none e1 hl2
  have npl2 : p ≠ l2 := ne_of_none upd_same hl2
  show sFld Z.K (tVar 0) (tC (.ref l2)) "said" _ _ _
  refine s_young (Z := Z) (ev_var rfl) (by rw [upd_ne npl2]; exact upd_same) k.clH k.h_said (by simp) (hp8 _ _ _ _ _ _ _ _) ev_c ?_
  refine q ⟨p, dx, l1, l2⟩ _ rfl hl1 (c2.free (H' := upd (upd H l1 (.lst us)) p (.ins Z.H dx _)) upd_same hl2) nl12 upd_same ?_ ?_ (c3.put)
  · rw [upd_ne npl1.symm, upd_ne nl12]
    exact e1
  · rw [upd_ne npl2.symm]
    exact upd_same
end SS

set_option Elab.async false
set_option linter.all false
set_option maxRecDepth 100000
set_option maxHeartbeats 4000000
namespace SS
open PySem L2
local macro_rules | `(tactic| walk_at "q") => `(tactic| ((try dsimp only); refine s_seq ?_))

def HA.ad (a : HA) : List Addr := [a.h, a.said, a.prog]
def MA.six (A : MA) : List Addr := [A.p, A.worths, A.links, A.freed, A.handsL, A.ends]
def Role.ix : Role → Nat
  | .m => 0 | .worths => 1 | .links => 2 | .freed => 3 | .handsL => 4 | .ends => 5
  | .hand _ => 0 | .said _ => 1 | .prog _ => 2
def Role.of : Role → Option Nat
  | .hand i => some i | .said i => some i | .prog i => some i
  | _ => none
theorem Role.ext {r r' : Role} (h1 : r.of = r'.of) (h2 : r.ix = r'.ix) : r = r' := by
  cases r <;> cases r' <;> simp [Role.of, Role.ix] at h1 h2 <;> first | rfl | (rw [h1])
theorem MA.at_six {A : MA} {r : Role} {a : Addr} (h : A.at r = some a) (o : r.of = none) : A.six[r.ix]? = some a := by
  cases r <;> first | exact h | (simp [Role.of] at o)
theorem MA.at_hand {A : MA} {r : Role} {a : Addr} {i : Nat} (h : A.at r = some a) (o : r.of = some i) : ∃ b, A.hs[i]? = some b ∧ b.ad[r.ix]? = some a := by
  cases r with
  | hand j =>
    have e : j = i := Option.some.inj o
    subst e
    simp only [MA.at, Option.map_eq_some_iff] at h
    obtain ⟨b, h1, h2⟩ := h
    exact ⟨b, h1, congrArg some h2⟩
  | said j =>
    have e : j = i := Option.some.inj o
    subst e
    simp only [MA.at, Option.map_eq_some_iff] at h
    obtain ⟨b, h1, h2⟩ := h
    exact ⟨b, h1, congrArg some h2⟩
  | prog j =>
    have e : j = i := Option.some.inj o
    subst e
    simp only [MA.at, Option.map_eq_some_iff] at h
    obtain ⟨b, h1, h2⟩ := h
    exact ⟨b, h1, congrArg some h2⟩
  | _ => cases o
theorem nodup_ix {l : List Addr} (nd : l.Nodup) {i j : Nat} {a : Addr} (h1 : l[i]? = some a) (h2 : l[j]? = some a) : i = j := nd_ix nd h1 h2
theorem sep_of {A : MA} (nd : A.six.Nodup) (fx : ∀ (i : Nat) (a : HA), A.hs[i]? = some a → ∀ x ∈ a.ad, x ∉ A.six) (wi : ∀ (i : Nat) (a : HA), A.hs[i]? = some a → a.ad.Nodup)
    (hh : ∀ (i j : Nat) (a b : HA) (x : Addr), A.hs[i]? = some a → A.hs[j]? = some b → x ∈ a.ad → x ∈ b.ad → i = j) : ∀ r r' a, A.at r = some a → A.at r' = some a → r = r' := by
  intro r r' a h h'
  cases e : r.of with
  | none =>
    cases e' : r'.of with
    | none => exact Role.ext (e.trans e'.symm) (nodup_ix nd (MA.at_six h e) (MA.at_six h' e'))
    | some i =>
      obtain ⟨b, hb, hx⟩ := MA.at_hand h' e'
      exact absurd (List.mem_of_getElem? (MA.at_six h e)) (fx i b hb a (List.mem_of_getElem? hx))
  | some i =>
    obtain ⟨b, hb, hx⟩ := MA.at_hand h e
    cases e' : r'.of with
    | none => exact absurd (List.mem_of_getElem? (MA.at_six h' e')) (fx i b hb a (List.mem_of_getElem? hx))
    | some j =>
      obtain ⟨b', hb', hx'⟩ := MA.at_hand h' e'
      have ij := hh i j b b' a hb hb' (List.mem_of_getElem? hx) (List.mem_of_getElem? hx')
      subst ij
      rw [hb] at hb'
      cases hb'
      exact Role.ext (e.trans e'.symm) (nodup_ix (wi i b hb) hx hx')
theorem seq_but {K : PySem.W.Frag} {H H' : Hp} {p C dx : Addr} {fs : List (Str × V)} {a : Addr} {xs : List V} (c : But p H H') (hp : H p = some (.ins C dx fs)) (h : SqL K H a xs) : SqL K H' a xs := by
  rcases h with (h | ⟨o, h⟩) | h
  · exact .inl (.inl (c _ _ h fun e => by rw [e, hp] at h; cases h))
  · exact .inl (.inr ⟨o, c _ _ h fun e => by rw [e, hp] at h; cases h⟩)
  · exact .inr h
theorem free_of {H H' : Hp} (c : Same H H') {x : Addr} (h : H' x = none) : H x = none := by
  cases z : H x with
  | none => rfl
  | some o =>
    have := c x o z
    rw [h] at this
    cases this
/-- the hands that stand so far: all new since Hc, apart from each other and from D -/
structure Young (Z : Cs) (Hc H : Hp) (D : Addr) (as : List HA) (ps : List (List Deed)) : Prop where
  same : Same Hc H
  list : H D = some (.lst (as.map fun a => V.ref a.h))
  hand : ∀ (j : Nat) (a : HA), as[j]? = some a → HandO Z H a .non {}
  said : ∀ (j : Nat) (a : HA), as[j]? = some a → H a.said = some (.lst [])
  prog : ∀ (j : Nat) (a : HA) (ds : List Deed), as[j]? = some a → ps[j]? = some ds → ∃ us, H a.prog = some (.lst us) ∧ All2 (DeedAt H) us ds
  there : ∀ (j : Nat) (a : HA), as[j]? = some a → ∀ x ∈ a.ad, H x ≠ none ∧ Hc x = none ∧ x ≠ D
  wi : ∀ (j : Nat) (a : HA), as[j]? = some a → a.ad.Nodup
  hh : ∀ (i j : Nat) (a b : HA) (x : Addr), as[i]? = some a → as[j]? = some b → x ∈ a.ad → x ∈ b.ad → i = j
theorem snoc_get {α : Type} {l : List α} {x : α} {i : Nat} {y : α} (h : (l ++ [x])[i]? = some y) : l[i]? = some y ∨ (i = l.length ∧ y = x) := by
  rw [List.getElem?_append] at h
  split at h
  · exact .inl h
  · rename_i hi
    have : i - l.length < 1 := by
      have := (List.getElem?_eq_some_iff.mp h).1
      simpa using this
    have e : i = l.length := by omega
    rw [e, Nat.sub_self] at h
    exact .inr ⟨e, (Option.some.inj h).symm⟩
theorem Young.more {Z : Cs} {Hc H : Hp} {D : Addr} {as : List HA} {ps : List (List Deed)} (y : Young Z Hc H D as ps) (hDc : Hc D = none) {a : HA} {H1 H2 : Hp} {us : List V} {ds : List Deed} (hd : ps[as.length]? = some ds)
    (s1 : Same H H1) (hx : H a.h = none) (hx1 : ∃ o, H1 a.h = some o) (hp : H1 a.prog = none) (hs : H1 a.said = none) (nps : a.prog ≠ a.said) (O : HandO Z H2 a .non {}) (P : H2 a.prog = some (.lst us)) (S : H2 a.said = some (.lst [])) (hu : All2 (DeedAt H) us ds) (s2 : Same H H2) :
    Young Z Hc (upd H2 D (.lst ((as.map fun a => V.ref a.h) ++ [.ref a.h]))) D (as ++ [a]) ps := by
  have sc : Same Hc H2 := fun b o e => s2 b o (y.same b o e)
  have s3 : Same Hc (upd H2 D (.lst ((as.map fun a => V.ref a.h) ++ [.ref a.h]))) := same_newer sc hDc
  have D1 := s1 _ _ y.list
  have D2 := s2 _ _ y.list
  have nD : ∀ x, x ∈ a.ad → x ≠ D := fun x hx' => by
    simp only [HA.ad, List.mem_cons, List.not_mem_nil, or_false] at hx'
    rcases hx' with rfl | rfl | rfl
    · exact fun e => by rw [e, y.list] at hx; cases hx
    · exact fun e => by rw [e, D1] at hs; cases hs
    · exact fun e => by rw [e, D1] at hp; cases hp
  have hn : ∀ x, x ∈ a.ad → H x = none := fun x hx' => by
    simp only [HA.ad, List.mem_cons, List.not_mem_nil, or_false] at hx'
    rcases hx' with rfl | rfl | rfl
    · exact hx
    · exact free_of s1 hs
    · exact free_of s1 hp
  have tup : ∀ b xs, H b = some (.tup xs) → upd H2 D (.lst ((as.map fun a => V.ref a.h) ++ [.ref a.h])) b = some (.tup xs) := fun b xs e => by
    rw [upd_ne (fun z => by rw [z, y.list] at e; cases e)]
    exact s2 _ _ e
  refine ⟨s3, by rw [upd_same, List.map_append] <;> rfl, fun j b hb => ?_, fun j b hb => ?_, fun j b ds' hb hd' => ?_, fun j b hb x hx' => ?_, fun j b hb => ?_, fun i j b c x hb hc h1 h2 => ?_⟩
  · rcases snoc_get hb with hb | ⟨_, rfl⟩
    · show upd _ _ _ _ = _
      rw [upd_ne (y.there j b hb b.h (by simp [HA.ad])).2.2]
      exact s2 _ _ (y.hand j b hb)
    · show upd _ _ _ _ = _
      rw [upd_ne (nD b.h (by simp [HA.ad]))]
      exact O
  · rcases snoc_get hb with hb | ⟨_, rfl⟩
    · rw [upd_ne (y.there j b hb b.said (by simp [HA.ad])).2.2]
      exact s2 _ _ (y.said j b hb)
    · rw [upd_ne (nD b.said (by simp [HA.ad]))]
      exact S
  · rcases snoc_get hb with hb | ⟨e, rfl⟩
    · obtain ⟨us', h1, h2⟩ := y.prog j b ds' hb hd'
      refine ⟨us', ?_, h2.mono fun _ _ => DeedAt.mono tup⟩
      rw [upd_ne (y.there j b hb b.prog (by simp [HA.ad])).2.2]
      exact s2 _ _ h1
    · subst e
      rw [hd] at hd'
      cases hd'
      refine ⟨us, ?_, hu.mono fun _ _ => DeedAt.mono tup⟩
      rw [upd_ne (nD b.prog (by simp [HA.ad]))]
      exact P
  · rcases snoc_get hb with hb | ⟨_, rfl⟩
    · obtain ⟨h1, h2, h3⟩ := y.there j b hb x hx'
      refine ⟨?_, h2, h3⟩
      rw [upd_ne h3]
      cases z : H x with
      | none => exact absurd z h1
      | some o => rw [s2 _ _ z]; exact fun e => by cases e
    · refine ⟨?_, free_of y.same (hn x hx'), nD x hx'⟩
      rw [upd_ne (nD x hx')]
      simp only [HA.ad, List.mem_cons, List.not_mem_nil, or_false] at hx'
      rcases hx' with rfl | rfl | rfl
      · rw [show H2 b.h = _ from O]; exact fun e => by cases e
      · rw [S]; exact fun e => by cases e
      · rw [P]; exact fun e => by cases e
  · rcases snoc_get hb with hb | ⟨_, rfl⟩
    · exact y.wi j b hb
    · obtain ⟨o, ho⟩ := hx1
      have n1 : b.h ≠ b.said := fun e => by rw [e, hs] at ho; cases ho
      have n2 : b.h ≠ b.prog := fun e => by rw [e, hp] at ho; cases ho
      simp [HA.ad, n1, n2, nps.symm]
  · rcases snoc_get hb with hb' | ⟨e1, eb⟩
    · rcases snoc_get hc with hc' | ⟨e2, ec⟩
      · exact y.hh i j b c x hb' hc' h1 h2
      · exact absurd (hn x (by rw [← ec]; exact h2)) (y.there i b hb' x h1).1
    · rcases snoc_get hc with hc' | ⟨e2, ec⟩
      · exact absurd (hn x (by rw [← eb]; exact h1)) (y.there j c hc' x h2).1
      · rw [e1, e2]
end SS

set_option Elab.async false
set_option linter.all false
set_option maxRecDepth 100000
set_option maxHeartbeats 4000000
namespace SS
open PySem L2
local macro_rules | `(tactic| walk_at "q") => `(tactic| ((try dsimp only); refine s_seq ?_))

theorem rgV_nat (n : Nat) : rgV 0 (n : Int) = (List.range n).map natV := by
  unfold rgV
  rw [show ((n : Int) - 0).toNat = n by omega]
  exact List.map_congr_left fun i _ => by rw [Int.zero_add]
theorem ProgsAt.but {K : PySem.W.Frag} {H H' : Hp} {p C dx l : Addr} {fs : List (Str × V)} {ps : List (List Deed)} (c : But p H H') (hp : H p = some (.ins C dx fs)) (h : ProgsAt K H l ps) : ProgsAt K H' l ps := by
  obtain ⟨us, L, hu⟩ := h
  have np : ∀ b o, H b = some o → (∀ fs, o ≠ .ins C dx fs) → b ≠ p := fun b o e n z => by
    rw [z, hp] at e
    cases e
    exact n _ rfl
  have tup : Tups H H' := fun b xs e => c _ _ e (np _ _ e fun fs => by intro z; cases z)
  refine ⟨us, seq_but c hp L, hu.mono fun v ds => ?_⟩
  rintro ⟨q, vs, rfl, h1, h2⟩
  exact ⟨q, vs, rfl, c _ _ h1 (np _ _ h1 fun fs => by intro z; cases z), h2.mono fun _ _ => DeedAt.mono tup⟩
theorem pure_M_init {Z : Cs} (k : ZOk Z) (vs : List V) (H : Hp) (Q : VK) (E : XK) (h : sp_M_init Z vs H Q E) : t_M_init Z { nx := fun _ H' => Q .non H', rt := Q } (start ["self", "values", "programs", "rule", "program"] vs) H := by
  obtain ⟨p, dx, lv, lp, lr, values, ps, r, rfl, hp, hv, hps, hr, ok, q⟩ := h
  unfold t_M_init
  walk_at "q"
  refine s_drop' (s_call (ea_cons (ev_var rfl) ea_nil) ⟨lv, values, rfl, hv, ok.vlen, ok.vals, ?_⟩)
  walk_at "q"
  refine s_drop' (s_call (ea_cons (ev_var rfl) ea_nil) ⟨lp, ps, rfl, hps, ok.plen, ok.dlen, ok.deeds, ?_⟩)
  walk_at "q"
  obtain ⟨pus, hpl, hpu⟩ := id hps
  refine s_drop' (s_call (ea_cons (ev_var rfl) (ea_cons (ev_is (ev_lenL (ev_var rfl) hpl) (by rw [hpu.length])) ea_nil)) ⟨lr, r, ps.length, rfl, hr, ok.rule, fun H1 c1 => ?_⟩)
  have b1 : But p H H1 := fun b o e _ => c1 b o e
  have p1 := c1 _ _ hp
  walk_at "q"
  refine s_young (Z := Z) (ev_var rfl) p1 k.clM k.m_rule (by decide) (mp1 _) (ev_var rfl) ?_
  have b2 := b1.put (o := .ins Z.M dx ([("rule", V.ref lr)] : List (Str × V)))
  -- worths
  walk_at "q"
  refine e_listOf (ev_var rfl) (.inl (seq_but b2 hp hv)) fun lw hlw => ?_
  show sFld Z.K (tVar 0) (tC (.ref lw)) "worths" _ _ _
  have b3 := b2.new (o := .lst (values.map V.int)) hlw
  have p3 := Same.new (o := .lst (values.map V.int)) hlw _ _ (upd_same (H := H1) (a := p) (o := .ins Z.M dx ([("rule", V.ref lr)] : List (Str × V))))
  have nw : p ≠ lw := ne_of_none upd_same hlw
  have fw : H lw = none := b2.free upd_same hlw
  refine s_young (Z := Z) (ev_var rfl) p3 k.clM k.m_worths (by simp) (mp2 _ _) ev_c ?_
  generalize h4 : upd (upd (upd H1 p (HO.ins Z.M dx ([("rule", V.ref lr)] : List (Str × V)))) lw (HO.lst (List.map V.int values))) p (HO.ins Z.M dx ([("rule", V.ref lr), ("worths", V.ref lw)] : List (Str × V))) = H4
  have b4 : But p H H4 := by rw [← h4]; exact b3.put
  have p4 : H4 p = some (.ins Z.M dx ([("rule", V.ref lr), ("worths", V.ref lw)] : List (Str × V))) := by rw [← h4]; exact upd_same
  have w4 : H4 lw = some (.lst (values.map V.int)) := by rw [← h4, upd_ne nw.symm]; exact upd_same
  -- links
  walk_at "q"
  refine ev_lenL (ev_var rfl) (seq_but b4 hp hv) _ ⟨_, rfl, ?_⟩
  rw [List.length_map]
  refine ⟨.of_le (by omega) (by have := ok.vlen; omega) (by omega) (by omega), fun ll hll => ?_⟩
  rw [rgV_nat]
  show sFld Z.K (tVar 0) (tC (.ref ll)) "links" _ _ _
  have b5 := b4.new (o := .lst ((List.range values.length).map natV)) hll
  have p5 := Same.new (o := .lst ((List.range values.length).map natV)) hll _ _ p4
  have w5 := Same.new (o := .lst ((List.range values.length).map natV)) hll _ _ w4
  have nl : p ≠ ll := ne_of_none p4 hll
  have nlw : lw ≠ ll := ne_of_none w4 hll
  have fl : H ll = none := b4.free p4 hll
  refine s_young (Z := Z) (ev_var rfl) p5 k.clM k.m_links (by simp) (mp3 _ _ _) ev_c ?_
  generalize h6 : upd (upd H4 ll (HO.lst ((List.range values.length).map natV))) p (HO.ins Z.M dx ([("rule", V.ref lr), ("worths", V.ref lw), ("links", V.ref ll)] : List (Str × V))) = H6
  have b6 : But p H H6 := by rw [← h6]; exact b5.put
  have p6 : H6 p = some (.ins Z.M dx ([("rule", V.ref lr), ("worths", V.ref lw), ("links", V.ref ll)] : List (Str × V))) := by rw [← h6]; exact upd_same
  have w6 : H6 lw = some (.lst (values.map V.int)) := by rw [← h6, upd_ne nw.symm]; exact w5
  have l6 : H6 ll = some (.lst ((List.range values.length).map natV)) := by rw [← h6, upd_ne nl.symm]; exact upd_same
  -- top, count
  walk_at "q"
  refine s_young (Z := Z) (ev_var rfl) p6 k.clM k.m_top (by simp) (mp4 _ _ _ _) (ev_is (ev_lenL (ev_var rfl) (seq_but b6 hp hv)) (by rw [List.length_map])) ?_
  walk_at "q"
  refine s_young (Z := Z) (ev_var rfl) upd_same k.clM k.m_count (by simp) (mp5 _ _ _ _ _) ev_c ?_
  rw [upd_upd]
  generalize h7 : upd H6 p (HO.ins Z.M dx ([("rule", V.ref lr), ("worths", V.ref lw), ("links", V.ref ll), ("top", V.int values.length), ("count", V.int 0)] : List (Str × V))) = H7
  have b7 : But p H H7 := by rw [← h7]; exact b6.put
  have p7 : H7 p = some (.ins Z.M dx ([("rule", V.ref lr), ("worths", V.ref lw), ("links", V.ref ll), ("top", V.int values.length), ("count", V.int 0)] : List (Str × V))) := by rw [← h7]; exact upd_same
  have w7 : H7 lw = some (.lst (values.map V.int)) := by rw [← h7, upd_ne nw.symm]; exact w6
  have l7 : H7 ll = some (.lst ((List.range values.length).map natV)) := by rw [← h7, upd_ne nl.symm]; exact l6
  -- freed
  walk_at "q"
  refine e_lst ea_nil (by show 0 ≤ 1000; decide) fun lf hlf => ?_
  show sFld Z.K (tVar 0) (tC (.ref lf)) "freed" _ _ _
  have b8 := b7.new (o := .lst []) hlf
  have p8 := Same.new (o := .lst []) hlf _ _ p7
  have w8 := Same.new (o := .lst []) hlf _ _ w7
  have l8 := Same.new (o := .lst []) hlf _ _ l7
  have nf : p ≠ lf := ne_of_none p7 hlf
  have nfw : lw ≠ lf := ne_of_none w7 hlf
  have nfl : ll ≠ lf := ne_of_none l7 hlf
  have ff : H lf = none := b7.free p7 hlf
  refine s_young (Z := Z) (ev_var rfl) p8 k.clM k.m_freed (by simp) (mp6 _ _ _ _ _ _) ev_c ?_
  generalize h9 : upd (upd H7 lf (HO.lst [])) p (HO.ins Z.M dx ([("rule", V.ref lr), ("worths", V.ref lw), ("links", V.ref ll), ("top", V.int values.length), ("count", V.int 0), ("freed", V.ref lf)] : List (Str × V))) = H9
  have b9 : But p H H9 := by rw [← h9]; exact b8.put
  have p9 : H9 p = some (.ins Z.M dx ([("rule", V.ref lr), ("worths", V.ref lw), ("links", V.ref ll), ("top", V.int values.length), ("count", V.int 0), ("freed", V.ref lf)] : List (Str × V))) := by rw [← h9]; exact upd_same
  have w9 : H9 lw = some (.lst (values.map V.int)) := by rw [← h9, upd_ne nw.symm]; exact w8
  have l9 : H9 ll = some (.lst ((List.range values.length).map natV)) := by rw [← h9, upd_ne nl.symm]; exact l8
  have f9 : H9 lf = some (.lst []) := by rw [← h9, upd_ne nf.symm]; exact upd_same
  -- hands
  have hps9 := hps.but b9 hp
  obtain ⟨us, L9, hu9⟩ := hps9
  walk_at "q"
  refine e_lcL (ev_var rfl) L9 (fun D i H' => ∃ as : List HA, as.length = i ∧ Young Z H9 H' D as ps) (fun D hD => ⟨[], rfl, Same.new hD, upd_same, by simp, by simp, by simp, by simp, by simp, by simp⟩) (fun D i H' _ _ p => ?_) (fun D i x H' hx hD hy => ?_) (fun D H' hD hy => ?_)
  · obtain ⟨as, _, y⟩ := p
    exact Same.seq y.same L9
  · obtain ⟨as, rfl, y⟩ := hy
    have hi : as.length < ps.length := by rw [← hu9.length]; exact (List.getElem?_eq_some_iff.mp hx).1
    obtain ⟨ds, hds⟩ : ∃ ds, ps[as.length]? = some ds := ⟨_, List.getElem?_eq_getElem hi⟩
    obtain ⟨x', hx', qq, vs', rfl, hq, hd⟩ := hu9.get as.length hds
    rw [hx] at hx'
    cases hx'
    have hq' := y.same _ _ hq
    refine ⟨rfl, et_yes _ (iteT ?_)⟩
    refine (ea_cons (ev_var rfl) ea_nil) _ ?_
    intro x dx' hx0 hdx0 hne
    have s1 : Same H' (upd (upd H' dx' (.own x)) x (.ins Z.H dx' [])) := fun b o e => by
      rw [upd_ne (ne_of_none e hx0), upd_ne (ne_of_none e hdx0)]
      exact e
    refine ⟨x, dx', qq, vs', ds, rfl, upd_same, s1 _ _ hq', ?_, ?_⟩
    · exact hd.mono fun _ _ => DeedAt.mono fun b xs e => s1 _ _ (y.same _ _ e)
    · intro a H2 ea hpn hsn nps O P S bt
      refine ⟨rfl, ?_⟩
      have s2 : Same H' H2 := Same.made hx0 hdx0 bt
      refine ⟨_, s2 _ _ y.list, ?_, as ++ [a], by simp, ?_⟩
      · rw [List.length_map]
        have := ok.plen.2
        exact Nat.lt_of_lt_of_le hi (Nat.le_trans this (by decide))
      · rw [← ea]
        exact y.more hD hds s1 (by rw [ea]; exact hx0) ⟨_, by rw [ea]; exact upd_same⟩ hpn hsn nps O P S (hd.mono fun _ _ => DeedAt.mono fun b xs e => y.same _ _ e) s2
  · obtain ⟨as, hlen, y⟩ := hy
    rw [hu9.length] at hlen
    show sFld Z.K (tVar 0) (tC (.ref D)) "hands" _ _ _
    have bA : But p H H' := b9.same y.same
    have pA := y.same _ _ p9
    have nD : p ≠ D := ne_of_none p9 hD
    have nDw : lw ≠ D := ne_of_none w9 hD
    have nDl : ll ≠ D := ne_of_none l9 hD
    have nDf : lf ≠ D := ne_of_none f9 hD
    have fD : H D = none := b9.free p9 hD
    refine s_young (Z := Z) (ev_var rfl) pA k.clM k.m_hands (by simp) (mp7 _ _ _ _ _ _ _) ev_c ?_
    generalize hB : upd H' p (HO.ins Z.M dx ([("rule", V.ref lr), ("worths", V.ref lw), ("links", V.ref ll), ("top", V.int values.length), ("count", V.int 0), ("freed", V.ref lf), ("hands", V.ref D)] : List (Str × V))) = HB
    have bB : But p H HB := by rw [← hB]; exact bA.put
    have pB : HB p = some (.ins Z.M dx ([("rule", V.ref lr), ("worths", V.ref lw), ("links", V.ref ll), ("top", V.int values.length), ("count", V.int 0), ("freed", V.ref lf), ("hands", V.ref D)] : List (Str × V))) := by rw [← hB]; exact upd_same
    have kB : ∀ b o, H' b = some o → b ≠ p → HB b = some o := fun b o e n => by rw [← hB, upd_ne n]; exact e
    walk_at "q"
    refine e_lst ea_nil (by show 0 ≤ 1000; decide) fun le hle => ?_
    show sFld Z.K (tVar 0) (tC (.ref le)) "ends" _ _ _
    have ne : p ≠ le := ne_of_none pB hle
    have fe : H le = none := bB.free pB hle
    have pC := Same.new (o := .lst []) hle _ _ pB
    have kC : ∀ b o, H' b = some o → b ≠ p → upd HB le (.lst []) b = some o := fun b o e n => Same.new hle _ _ (kB b o e n)
    have nB : ∀ b o, H' b = some o → b ≠ p → b ≠ le := fun b o e n => ne_of_none (kB b o e n) hle
    refine s_young (Z := Z) (ev_var rfl) pC k.clM k.m_ends (by simp) (mp8 _ _ _ _ _ _ _ _) ev_c ?_
    refine s_young (Z := Z) (ev_var rfl) upd_same k.clM k.m_strayed (by simp) (mp9 _ _ _ _ _ _ _ _ _) ev_c ?_
    rw [upd_upd]
    have kD : ∀ b o, H' b = some o → b ≠ p → upd (upd HB le (.lst [])) p (.ins Z.M dx ([("rule", V.ref lr), ("worths", V.ref lw), ("links", V.ref ll), ("top", V.int values.length), ("count", V.int 0), ("freed", V.ref lf), ("hands", V.ref D), ("ends", V.ref le), ("strayed", V.bl false)] : List (Str × V))) b = some o := fun b o e n => by
      rw [upd_ne n]
      exact kC b o e n
    have npa : ∀ (j : Nat) (a : HA), as[j]? = some a → ∀ x ∈ a.ad, x ≠ p := fun j a ha x hx e => by
      have := (y.there j a ha x hx).2.1
      rw [e, p9] at this
      cases this
    let A : MA := ⟨p, dx, lr, lw, ll, lf, D, le, as⟩
    have hw' := y.same _ _ w9
    have hl' := y.same _ _ l9
    have hf' := y.same _ _ f9
    have tup : Tups H' _ := fun b xs e => kD b _ e fun z => by rw [z, pA] at e; cases e
    have tupH : Tups H _ := fun b xs e => tup b xs (bA b _ e fun z => by rw [z, hp] at e; cases e)
    have hdM : ∀ i, (M.begin_ values ps r).hd i = {} := fun i => by
      unfold M.hd M.begin_
      rw [List.getD_eq_getElem?_getD, List.getElem?_map]
      cases ps[i]? <;> rfl
    refine q A _ rfl ?_ ⟨?_, hr.mono tupH, ?_, ?_, ?_⟩ ?_
    · rintro a ⟨ro, ho⟩ nap
      have six : a ∈ A.six → H a = none := fun h => by
        simp only [MA.six, List.mem_cons, List.not_mem_nil, or_false] at h
        rcases h with h | h | h | h | h | h
        · exact absurd h nap
        · rw [h]; exact fw
        · rw [h]; exact fl
        · rw [h]; exact ff
        · rw [h]; exact fD
        · rw [h]; exact fe
      cases e : ro.of with
      | none => exact six (List.mem_of_getElem? (MA.at_six ho e))
      | some i =>
        obtain ⟨b, hb, hx⟩ := MA.at_hand ho e
        obtain ⟨h1, h2, h3⟩ := y.there i b hb a (List.mem_of_getElem? hx)
        exact b9.free p9 h2
    · intro ro a ho
      cases ro with
      | m =>
        cases ho
        exact ⟨_, upd_same, rfl⟩
      | worths =>
        cases ho
        exact ⟨_, kD _ _ hw' nw.symm, rfl⟩
      | links =>
        cases ho
        exact ⟨_, kD _ _ hl' nl.symm, rfl⟩
      | freed =>
        cases ho
        exact ⟨_, kD _ _ hf' nf.symm, rfl⟩
      | handsL =>
        cases ho
        exact ⟨_, kD _ _ y.list nD.symm, rfl⟩
      | ends =>
        cases ho
        refine ⟨.lst [], ?_, [], rfl, .nil⟩
        rw [upd_ne ne.symm]
        exact upd_same
      | hand i =>
        obtain ⟨b, hb, hx⟩ := MA.at_hand (i := i) ho rfl
        have e : b.h = a := Option.some.inj hx
        subst e
        exact ⟨_, kD _ _ (y.hand i b hb) (npa i b hb _ (by simp [HA.ad])), b, .non, hb, by rw [hdM], by rw [hdM]; rfl⟩
      | said i =>
        obtain ⟨b, hb, hx⟩ := MA.at_hand (i := i) ho rfl
        have e : b.said = a := Option.some.inj hx
        subst e
        refine ⟨_, kD _ _ (y.said i b hb) (npa i b hb _ (by simp [HA.ad])), ?_⟩
        show _ = _
        rw [hdM]
        rfl
      | prog i =>
        obtain ⟨b, hb, hx⟩ := MA.at_hand (i := i) ho rfl
        have e : b.prog = a := Option.some.inj hx
        subst e
        have hi : i < ps.length := by
          rw [← hlen]
          exact (List.getElem?_eq_some_iff.mp hb).1
        have hds : ps[i]? = some (ps.getD i []) := by
          rw [List.getD_eq_getElem?_getD, List.getElem?_eq_getElem hi]
          rfl
        obtain ⟨us', h1, h2⟩ := y.prog i b _ hb hds
        exact ⟨_, kD _ _ h1 (npa i b hb _ (by simp [HA.ad])), us', rfl, h2.mono fun _ _ => DeedAt.mono tup⟩
    · show as.length = (ps.map _).length
      rw [List.length_map, hlen]
    · show ps.length = (ps.map _).length
      rw [List.length_map]
    · refine sep_of ?_ ?_ y.wi y.hh
      · have n1 := nB _ _ hw' nw.symm
        have n2 := nB _ _ hl' nl.symm
        have n3 := nB _ _ hf' nf.symm
        have n4 := nB _ _ y.list nD.symm
        simp [MA.six, A, nw, nl, nf, nD, ne, nlw, nfw, nDw, nfl, nDl, nDf, n1, n2, n3, n4]
      · intro i a ha x hx hs
        obtain ⟨h1, h2, h3⟩ := y.there i a ha x hx
        have n1 := npa i a ha x hx
        simp only [MA.six, List.mem_cons, List.not_mem_nil, or_false] at hs
        rcases hs with h | h | h | h | h | h
        · exact n1 h
        · rw [h] at h2; exact absurd (w9.symm.trans h2) (by intro z; cases z)
        · rw [h] at h2; exact absurd (l9.symm.trans h2) (by intro z; cases z)
        · rw [h] at h2; exact absurd (f9.symm.trans h2) (by intro z; cases z)
        · exact h3 h
        · cases z : H' x with
          | none => exact h1 z
          | some o => exact nB x o z n1 h
    · intro b o e n
      exact kD b o (bA b o e n) n
end SS

set_option Elab.async false
set_option linter.all false
set_option maxRecDepth 100000
set_option maxHeartbeats 4000000
namespace SS
open PySem L2
local macro_rules | `(tactic| walk_at "q") => `(tactic| ((try dsimp only); refine s_seq ?_))

def sp_serial (Z : Cs) : Sp := fun vs H Q _ => ∃ (lv ld : Addr) (values : List Int) (us : List V) (ds : List Deed), vs = [.ref lv, .ref ld] ∧ SqL Z.K H lv (values.map V.int) ∧ values.length ≤ 6 ∧ (∀ v ∈ values, okVal v) ∧ H ld = some (.lst us) ∧ All2 (DeedAt H) us ds ∧ ds.length ≤ 1000 ∧ (∀ d ∈ ds, okDeed d) ∧
  ∀ (t la ln : Addr) H', Same H H' → H t = none → H la = none → H ln = none → la ≠ ln → H' t = some (.tup [.ref la, .ref ln]) → H' la = some (.lst ((serial values ds).1.map ansV)) → H' ln = some (.lst ((serial values ds).2.map V.int)) → Q (.ref t) H'
def sp_played (Z : Cs) : Sp := fun vs H Q _ => ∃ (lv lp lr lw : Addr) (values : List Int) (ps : List (List Deed)) (r : Rule) (w : List Nat), vs = [.ref lv, .ref lp, .ref lr, .ref lw] ∧ SqL Z.K H lv (values.map V.int) ∧ ProgsAt Z.K H lp ps ∧ RuleAt H lr r ∧ okIn values ps r ∧
  SqL Z.K H lw (w.map natV) ∧ (∀ h ∈ w, h < ps.length) ∧ w.length ≤ 100000 ∧ ∀ l us H', H l = none → Same H H' → H' l = some (.lst us) → All2 (TellAt H') us ((M.begin_ values ps r).tells w) → Q (.ref l) H'
/-- what whole tells: new lists, all apart -/
def WholeAt (H H' : Hp) (v : V) (m : M) : Prop := ∃ (t la lo lv : Addr) (as : List Addr) (us : List V), v = .ref t ∧ H' t = some (.tup [.ref la, .ref lo, .ref lv, .bl m.strayed]) ∧ H' la = some (.lst (as.map V.ref)) ∧ All2 (fun (a : Addr) (x : Hd) => H' a = some (.lst (x.said.map ansV))) as m.hands ∧
  H' lo = some (.lst us) ∧ All2 (PairAt H') us m.ends ∧ H' lv = some (.lst (m.pileValues.map V.int)) ∧ (la :: lo :: lv :: as).Nodup ∧ ∀ a ∈ la :: lo :: lv :: as, H a = none
def sp_whole (Z : Cs) : Sp := fun vs H Q _ => ∃ (lv lp lr lw : Addr) (values : List Int) (ps : List (List Deed)) (r : Rule) (w : List Nat), vs = [.ref lv, .ref lp, .ref lr, .ref lw] ∧ SqL Z.K H lv (values.map V.int) ∧ ProgsAt Z.K H lp ps ∧ RuleAt H lr r ∧ okIn values ps r ∧
  SqL Z.K H lw (w.map natV) ∧ (∀ h ∈ w, h < ps.length) ∧ ∀ v H', Same H H' → WholeAt H H' v (wholeM values ps r w) → Q v H'

/-! ### readings (printed) -/
/-- serial: 0 values, 1 deeds, 2 now, 3 answers, 4 deed -/
def t_serial (Z : Cs) : TS :=
  tSeq (tDrop (tCall (sp_need_values Z) [] E0 (tCons (tVar 0) tNil)))
    (tSeq (tDrop (tCall (sp_need_deeds Z) [] E0 (tCons (tVar 1) (tCons (tC (.int 0)) tNil))))
    (tSeq (tAsg (tCB (rListOf Z.K) (tCons (tVar 0) tNil)) (gName 2))
    (tSeq (tAsg (tLst tNil) (gName 3))
    (tSeq (tFor (iList Z.K (tVar 1)) (gName 4) ((tIfS (tTest (tOp rEq (tOp (rIxT Z.K) (tVar 4) (tC (.int 0))) (tC (.str "push")))) (tSeq (tDrop (tBM Z.K "list" rAppend (tVar 2) (tCons (tOp (rIxT Z.K) (tVar 4) (tC (.int 1))) tNil)))
    ((tDrop (tBM Z.K "list" rAppend (tVar 3) (tCons (tC (.str "done")) tNil))))) ((tIfS (tTest (tOp (rEqD Z.K) (tVar 2) (tLst tNil))) ((tDrop (tBM Z.K "list" rAppend (tVar 3) (tCons (tC .non) tNil)))) ((tDrop (tBM Z.K "list" rAppend (tVar 3) (tCons (tBM0 Z.K "list" rPop (tVar 2)) tNil)))))))))
    ((tRet (tTup (tCons (tVar 3) (tCons (tVar 2) tNil)))))))))
/-- played: 0 values, 1 programs, 2 rule, 3 weaving, 4 machine, 5 hand -/
def t_played (Z : Cs) : TS :=
  tSeq (tAsg (tMake Z.M (sp_M_init Z) [] E0 (tCons (tVar 0) (tCons (tVar 1) (tCons (tVar 2) tNil)))) (gName 4))
    ((tRet (tLc (iList Z.K (tVar 3)) (gName 5) tYes (tMeth Z.M "turn" (sp_M_turn Z) [] E0 (tVar 4) (tCons (tVar 5) tNil)) [5])))
/-- whole: 0 values, 1 programs, 2 rule, 3 weaving, 4 machine, 5 hand, 6 answers -/
def t_whole (Z : Cs) : TS :=
  tSeq (tAsg (tMake Z.M (sp_M_init Z) [] E0 (tCons (tVar 0) (tCons (tVar 1) (tCons (tVar 2) tNil)))) (gName 4))
    (tSeq (tFor (iList Z.K (tVar 3)) (gName 5) ((tDrop (tMeth Z.M "turn" (sp_M_turn Z) [] E0 (tVar 4) (tCons (tVar 5) tNil)))))
    (tSeq (tWhile (tNot (tB (tMeth Z.M "is_done" (sp_M_is_done Z) [] E0 (tVar 4) tNil))) ((tFor (iRng1 (tCons (tCB (rLen1 Z.K) (tCons (tVar 1) tNil)) tNil)) (gName 5) ((tDrop (tMeth Z.M "turn" (sp_M_turn Z) [] E0 (tVar 4) (tCons (tVar 5) tNil)))))))
    (tSeq (tAsg (tLc (iRng1 (tCons (tCB (rLen1 Z.K) (tCons (tVar 1) tNil)) tNil)) (gName 5) tYes (tMeth Z.M "answers" (sp_M_answers Z) [] E0 (tVar 4) (tCons (tVar 5) tNil)) [5]) (gName 6))
    ((tRet (tTup (tCons (tVar 6) (tCons (tMeth Z.M "order" (sp_M_order Z) [] E0 (tVar 4) tNil) (tCons (tMeth Z.M "pile_values" (sp_M_pile_values Z) [] E0 (tVar 4) tNil) (tCons (tMeth Z.M "is_stale" (sp_M_is_stale Z) [] E0 (tVar 4) tNil) tNil))))))))))
end SS

set_option Elab.async false
set_option linter.all false
set_option maxRecDepth 100000
set_option maxHeartbeats 4000000
namespace SS
open PySem L2
local macro_rules | `(tactic| walk_at "q") => `(tactic| ((try dsimp only); refine s_seq ?_))

theorem chg_fill' {H H' : Hp} {F : Addr → Prop} {D : Addr} {o : HO} (c : Chg F H H') (h : H D = none) : Chg F H (upd H' D o) :=
  ⟨fun b u e n => by rw [upd_ne (ne_of_none e h)]; exact c.keep b u e n, fun b u e s => by rw [upd_ne (ne_of_none e h)]; exact c.fix_ b u e s⟩
/-- a machine is made -/
theorem s_machine {Z : Cs} {s : L2.St} {H : Hp} {ar : TA} {lv lp lr : Addr} {values : List Int} {ps : List (List Deed)} {r : Rule} {Q : VK} (ha : EvA ar s H [.ref lv, .ref lp, .ref lr]) (hv : SqL Z.K H lv (values.map V.int)) (hp : ProgsAt Z.K H lp ps) (hr : RuleAt H lr r) (ok : okIn values ps r)
    (q : ∀ (A : MA) H', Same H H' → (∀ a, A.owns a → H a = none) → MachAt Z H' A (M.begin_ values ps r) → Q (.ref A.p) H') : tMake Z.M (sp_M_init Z) [] E0 ar s H Q := by
  refine t_make_of (ha _ fun x dx hx hdx ne => ?_)
  have s1 : Same H (upd (upd H dx (.own x)) x (.ins Z.M dx [])) := fun b o e => by
    rw [upd_ne (ne_of_none e hx), upd_ne (ne_of_none e hdx)]
    exact e
  have hp' : ProgsAt Z.K (upd (upd H dx (.own x)) x (.ins Z.M dx [])) lp ps := by
    obtain ⟨us, L, hu⟩ := hp
    refine ⟨us, Same.seq s1 L, hu.mono fun v ds => ?_⟩
    rintro ⟨q, vs, rfl, h1, h2⟩
    exact ⟨q, vs, rfl, s1 _ _ h1, h2.mono fun _ _ => DeedAt.mono fun b xs e => s1 _ _ e⟩
  refine ⟨x, dx, lv, lp, lr, values, ps, r, rfl, upd_same, Same.seq s1 hv, hp', hr.mono fun b xs e => s1 _ _ e, ok, fun A H' eA own T bt => ⟨rfl, ?_⟩⟩
  rw [← eA]
  refine q A H' (Same.made hx hdx bt) (fun a ho => ?_) T
  by_cases e : a = x
  · rw [e]; exact hx
  · exact free_of s1 (own a ho e)
/-- what a machine that is new has changed of what was -/
theorem same_own {F : Addr → Prop} {H H1 H2 : Hp} (c : Same H H1) (d : Chg F H1 H2) (n : ∀ a, F a → H a = none) : Same H H2 := fun b o e => d.keep b o (c b o e) fun z => by
  rw [n b z] at e
  cases e
theorem MachAt.own_ne {Z : Cs} {H : Hp} {A : MA} {m : M} (T : MachAt Z H A m) {a D : Addr} (h : A.owns a) (hD : H D = none) : a ≠ D := by
  obtain ⟨r, hr⟩ := h
  obtain ⟨o, ho, _⟩ := T.at_ r a hr
  exact ne_of_none ho hD
/-- a list of ours is filled -/
theorem MachAt.fill {Z : Cs} {H : Hp} {A : MA} {m : M} (T : MachAt Z H A m) {D : Addr} {xs : List V} {o : HO} (hD : H D = some (.lst xs)) (n : ∀ a, A.owns a → a ≠ D) : MachAt Z (upd H D o) A m :=
  T.chg (F := fun a => a = D) (Chg.put rfl fun u e => by rw [hD] at e; cases e; exact fun z => z) n
theorem s_turn {Z : Cs} {s : L2.St} {H : Hp} {A : MA} {m : M} {n : Nat} {te : TE} {h : Nat} {Q : VK} (h0 : s[n]? = some (some (.ref A.p))) (he : Ev te s H (.int h)) (T : MachAt Z H A m) (W : Wf m) (hl : h < m.hands.length)
    (q : ∀ v H', MachAt Z H' A (m.step h) → Chg A.owns H H' → TellAt H' v (m.turn h).1 → Q v H') : tMeth Z.M "turn" (sp_M_turn Z) [] E0 (tVar n) (tCons te tNil) s H Q :=
  s_meth (ev_var h0) T.obj (mf_no _ _ _ (by simp)) (ea_cons he ea_nil) ⟨A, m, h, rfl, T, W, hl, fun H' v T' C t _ => q v H' T' C t⟩
theorem s_turnR {Z : Cs} {s : L2.St} {H : Hp} {A : MA} {m : M} {n : Nat} {te : TE} {h : Nat} {Q : VK} (h0 : s[n]? = some (some (.ref A.p))) (he : Ev te s H (.int h)) (T : MachAt Z H A m) (W : Wf m) (hl : h < m.hands.length) (hr : m.rests h = true)
    (q : ∀ v H', Same H H' → TellAt H' v .rests → Q v H') : tMeth Z.M "turn" (sp_M_turn Z) [] E0 (tVar n) (tCons te tNil) s H Q :=
  s_meth (ev_var h0) T.obj (mf_no _ _ _ (by simp)) (ea_cons he ea_nil) ⟨A, m, h, rfl, T, W, hl, fun H' v T' C t S => q v H' (S hr) (by rw [step_rests hr] at t; exact t)⟩
theorem TellAt.mono {H H' : Hp} (t : Tups H H') {v : V} {w : Tell} (h : TellAt H v w) : TellAt H' v w := let ⟨q, e, h⟩ := h; ⟨q, e, t _ _ h⟩
theorem pure_played {Z : Cs} (k : ZOk Z) (vs : List V) (H : Hp) (Q : VK) (E : XK) (h : sp_played Z vs H Q E) : t_played Z { nx := fun _ H' => Q .non H', rt := Q } (start ["values", "programs", "rule", "weaving", "machine", "hand"] vs) H := by
  obtain ⟨lv, lp, lr, lw, values, ps, r, w, rfl, hv, hp, hr, ok, hw, hh, hlen, q⟩ := h
  unfold t_played
  walk_at "q"
  refine s_asg_of (s_machine (ea_cons (ev_var rfl) (ea_cons (ev_var rfl) (ea_cons (ev_var rfl) ea_nil))) hv hp hr ok fun A H1 c1 own T => ?_)
  show ({ nx := tRet _ _, rt := Q : Ends }).nx _ _
  dsimp only
  refine s_ret_of ?_
  refine e_lcL (ev_var rfl) (Same.seq c1 hw) (fun D i H' => Same H H' ∧ MachAt Z H' A ((M.begin_ values ps r).run (w.take i)) ∧ Chg A.owns H1 H' ∧ ∃ us, H' D = some (.lst us) ∧ All2 (TellAt H') us ((M.begin_ values ps r).tells (w.take i)))
    (fun D hD => ⟨fun b o e => Same.new hD _ _ (c1 b o e), T.new hD, Chg.same (Same.new hD), [], upd_same, .nil⟩) (fun D i H' _ _ p => Same.seq p.1 hw) (fun D i x H' hx hD p => ?_) (fun D H' hD p => ?_)
  · obtain ⟨s1, T1, C1, us, hL, hu⟩ := p
    obtain ⟨h, hh1, rfl⟩ := map_get hx
    have hlt := hh h (List.mem_of_getElem? hh1)
    have f : Fine ps r ((M.begin_ values ps r).run (w.take i)) := (Fine.begin_ ok).run fun x hx => hh x (List.mem_of_mem_take hx)
    have nD : ∀ a, A.owns a → a ≠ D := fun a ha => T.own_ne ha hD
    have hDn : H D = none := free_of c1 hD
    refine ⟨rfl, et_yes _ (iteT (s_turn rfl (ev_var rfl) T1 f.wf (by rw [f.hn]; exact hlt) fun v H2 T2 C2 t => ?_))⟩
    have hL2 := C2.keep _ _ hL fun z => nD D z rfl
    have hul := hu.length
    rw [tells_len] at hul
    refine ⟨us, hL2, ?_, ?_, ?_, ?_, us ++ [v], upd_same, ?_⟩
    · rw [hul, List.length_take]
      exact Nat.lt_of_le_of_lt (Nat.le_trans (Nat.min_le_right _ _) hlen) (by decide)
    · refine same_newer (same_own (F := A.owns) s1 C2 own) hDn
    · rw [take_snoc hh1, run_snoc]
      exact T2.fill hL2 nD
    · exact chg_fill' (C1.trans C2) hD
    · have tup : Tups H2 (upd H2 D (.lst (us ++ [v]))) := fun b xs e => by
        rw [upd_ne (fun z => by rw [z, hL2] at e; cases e)]
        exact e
      rw [take_snoc hh1, tells_snoc]
      exact (hu.mono fun _ _ => TellAt.mono fun b xs e => tup _ _ (C2.tup _ _ e)).snoc (t.mono tup)
  · obtain ⟨s1, T1, C1, us, hL, hu⟩ := p
    rw [List.length_map, List.take_length] at hu
    exact q D us H' (free_of c1 hD) s1 hL hu
end SS

set_option Elab.async false
set_option linter.all false
set_option maxRecDepth 100000
set_option maxHeartbeats 4000000
namespace SS
open PySem L2
local macro_rules | `(tactic| walk_at "q") => `(tactic| ((try dsimp only); refine s_seq ?_))

theorem All2.mono2 {α β : Type} {R S : α → β → Prop} : ∀ {l m}, (∀ a b, a ∈ l → R a b → S a b) → All2 R l m → All2 S l m
  | _, _, _, .nil => .nil
  | _, _, h, .cons a b => .cons (h _ _ List.mem_cons_self a) (All2.mono2 (fun x y hx => h x y (List.mem_cons_of_mem _ hx)) b)
theorem All2.mem' {α β : Type} {R : α → β → Prop} {a : α} : ∀ {l m}, All2 R l m → a ∈ l → ∃ b, R a b
  | _, _, .nil, h => by cases h
  | _, _, .cons x y, h => by
    rcases List.mem_cons.mp h with rfl | h
    · exact ⟨_, x⟩
    · exact All2.mem' y h

theorem pure_whole {Z : Cs} (k : ZOk Z) (vs : List V) (H : Hp) (Q : VK) (E : XK) (h : sp_whole Z vs H Q E) : t_whole Z { nx := fun _ H' => Q .non H', rt := Q } (start ["values", "programs", "rule", "weaving", "machine", "hand", "answers"] vs) H := by
  obtain ⟨lv, lp, lr, lw, values, ps, r, w, rfl, hv, hp, hr, ok, hw, hh, q⟩ := h
  have hp0 := hp
  obtain ⟨us, hps, hus⟩ := hp0
  have hul := hus.length
  unfold t_whole
  walk_at "q"
  refine s_asg_of (s_machine (ea_cons (ev_var rfl) (ea_cons (ev_var rfl) (ea_cons (ev_var rfl) ea_nil))) hv hp hr ok fun A H1 c1 own T => ?_)
  show ({ nx := _, rt := Q : Ends }).nx _ _
  walk_at "q"
  refine s_forL (ev_var rfl) (Same.seq c1 hw) (fun i s' H' => ∃ x : Option V, s' = [some (.ref lv), some (.ref lp), some (.ref lr), some (.ref lw), some (.ref A.p), x, none] ∧ MachAt Z H' A ((M.begin_ values ps r).run (w.take i)) ∧ Chg A.owns H1 H')
    ⟨none, rfl, T, Chg.refl _ _⟩ (fun i s' H' _ ⟨_, _, _, C⟩ => Same.seq (same_own c1 C own) hw) (fun i x s' H' hx p => ?_) (fun s' H' p => ?_)
  · obtain ⟨y, rfl, T1, C1⟩ := p
    obtain ⟨h, hh1, rfl⟩ := map_get hx
    have hlt := hh h (List.mem_of_getElem? hh1)
    have f : Fine ps r ((M.begin_ values ps r).run (w.take i)) := (Fine.begin_ ok).run fun x hx => hh x (List.mem_of_mem_take hx)
    refine s_drop' (s_turn rfl (ev_var rfl) T1 f.wf (by rw [f.hn]; exact hlt) fun v H2 T2 C2 t => ⟨_, rfl, ?_, C1.trans C2⟩)
    rw [take_snoc hh1, run_snoc]
    exact T2
  · obtain ⟨y, rfl, T1, C1⟩ := p
    rw [List.length_map, List.take_length] at T1
    have f0 : Fine ps r ((M.begin_ values ps r).run w) := (Fine.begin_ ok).run hh
    walk_at "q"
    refine s_whileN (fun n s' H' => ∃ (x : Option V) (m : M), s' = [some (.ref lv), some (.ref lp), some (.ref lr), some (.ref lw), some (.ref A.p), x, none] ∧ MachAt Z H' A m ∧ Chg A.owns H1 H' ∧ Fine ps r m ∧ m.mu < n ∧ M.finish n m = wholeM values ps r w)
      ⟨1000, y, _, rfl, T1, C1, f0, f0.mu_le, rfl⟩ ?_ ?_
    · rintro n s' H' ⟨x, m, rfl, T2, C2, f, hmu, hf⟩
      have h3 : m.hands.length ≤ 1000 := by have := f.hn; have := f.plen; omega
      refine t_B_of (s_meth (ev_var rfl) T2.obj (mf_no _ _ _ (by simp)) ea_nil ⟨A, m, rfl, T2, h3, fun H2 s2 => ⟨_, rfl, ?_⟩⟩)
      have T3 := T2.same s2
      have C3 : Chg A.owns H1 H2 := C2.trans (Chg.same s2)
      cases e : m.isDone with
      | false =>
        dsimp only
        rw [if_pos (by rfl)]
        cases n with
        | zero => omega
        | succ n =>
          rw [finish_step e] at hf
          have lt := f.round_lt e
          refine s_forR (n := us.length) (ev_lenL (ev_var rfl) (Same.seq (same_own c1 C3 own) hps)) (by have := f.plen; omega) (fun i s' H' => ∃ x : Option V, s' = [some (.ref lv), some (.ref lp), some (.ref lr), some (.ref lw), some (.ref A.p), x, none] ∧ MachAt Z H' A (m.run (List.range i)) ∧ Chg A.owns H1 H')
            ⟨x, rfl, T3, C3⟩ (fun i s' H' hi p => ?_) (fun s' H' p => ?_)
          · obtain ⟨y, rfl, T4, C4⟩ := p
            have f2 : Fine ps r (m.run (List.range i)) := f.run fun h hh => by have := List.mem_range.mp hh; omega
            refine s_drop' (s_turn rfl (ev_var rfl) T4 f2.wf (by rw [f2.hn]; omega) fun v H5 T5 C5 t => ⟨_, rfl, ?_, C4.trans C5⟩)
            rw [List.range_succ, run_snoc]
            exact T5
          · obtain ⟨y, rfl, T4, C4⟩ := p
            refine ⟨n, Nat.lt_succ_self n, y, m.round, rfl, ?_, C4, f.round, by omega, hf⟩
            have e : m.hands.length = us.length := by rw [f.hn, hul]
            unfold M.round
            rw [e]
            exact T4
      | true =>
        dsimp only
        rw [if_neg (by simp)]
        rw [finish_done e] at hf
        subst hf
        generalize wholeM values ps r w = m at *
        have S2 : Same H H2 := same_own c1 C3 own
        have ml : m.hands.length = us.length := by rw [f.hn, hul]
        walk_at "q"
        refine s_asg_of (e_lcR (n := us.length) (ev_lenL (ev_var rfl) (Same.seq S2 hps)) (by have := f.plen; omega) (fun D i H' => Same H2 H' ∧ ∃ as : List Addr, H' D = some (.lst (as.map V.ref)) ∧ All2 (fun (a : Addr) (x : Hd) => H' a = some (.lst (x.said.map ansV))) as (m.hands.take i) ∧ as.Nodup ∧ ∀ a ∈ as, H2 a = none ∧ a ≠ D)
          (fun D hD => ⟨Same.new hD, [], upd_same, by rw [List.take_zero]; exact .nil, List.nodup_nil, fun _ h => by cases h⟩) (fun D i H' hi hD p => ?_) (fun D H' hD p => ?_))
        · obtain ⟨s3, as, hL, ha, nd, fr⟩ := p
          have T4 := T3.same s3
          obtain ⟨a, hah⟩ := T4.hand_of (i := i) (by omega)
          refine ⟨rfl, et_yes _ (iteT (s_meth (ev_var rfl) T4.obj (mf_no _ _ _ (by simp)) (ea_cons (ev_var rfl) ea_nil) ⟨A, m, i, a, rfl, T4, hah, fun l hl => ?_⟩))⟩
          have lD : l ≠ D := fun z => by rw [z, hL] at hl; cases hl
          have hl2 : H2 l = none := free_of s3 hl
          have hi2 : m.hands[i]? = some (m.hd i) := by
            unfold M.hd
            rw [List.getD_eq_getElem?_getD, List.getElem?_eq_getElem (by omega)]
            rfl
          have hal := ha.length
          rw [List.length_take] at hal
          refine ⟨as.map V.ref, by rw [upd_ne lD.symm]; exact hL, ?_, ?_, as ++ [l], ?_, ?_, ?_, ?_⟩
          · rw [List.length_map, hal]
            have := f.plen
            exact Nat.lt_of_le_of_lt (by omega : _ ≤ 3) (by decide)
          · exact same_newer (fun b o e => Same.new hl _ _ (s3 b o e)) hD
          · rw [List.map_append]
            exact upd_same
          · rw [take_snoc hi2]
            refine (All2.mono2 (fun a x hm e => ?_) ha).snoc ?_
            · have h1 := fr a hm
              rw [upd_ne h1.2, upd_ne (fun z => by rw [z, hl] at e; cases e)]
              exact e
            · rw [upd_ne lD, upd_same]
          · rw [List.nodup_append]
            refine ⟨nd, by simp, ?_⟩
            intro a ha1 b hb
            have hb' : b = l := by simpa using hb
            subst hb'
            obtain ⟨x, hx⟩ := All2.mem' ha ha1
            exact fun z => by rw [z, hl] at hx; cases hx
          · intro b hb
            rcases List.mem_append.mp hb with h | h
            · exact fr b h
            · have hb' : b = l := by simpa using h
              subst hb'
              exact ⟨hl2, lD⟩
        · obtain ⟨s3, as, hL, ha, nd, fr⟩ := p
          rw [← ml, List.take_length] at ha
          have T4 := T3.same s3
          have hDH : H D = none := free_of S2 hD
          show ({ nx := tRet _ _, rt := Q : Ends }).nx _ _
          dsimp only
          refine s_ret_of (t_tup_of (t_cons_of (ev_var rfl _ (t_cons_of (s_meth (ev_var rfl) T4.obj (mf_no _ _ _ (by simp)) ea_nil ⟨A, m, rfl, T4, fun lo uo hlo huo => ?_⟩)))))
          have T5 := T4.new (o := .lst uo) hlo
          have s5 : Same H2 (upd H' lo (.lst uo)) := fun b o e => Same.new hlo _ _ (s3 b o e)
          refine t_cons_of (s_meth (ev_var rfl) T5.obj (mf_no _ _ _ (by simp)) ea_nil ⟨A, m, rfl, T5, f.pile, fun lq H6 hlq s6 eq6 => ?_⟩)
          have T6 := T5.same s6
          refine t_cons_of (s_meth (ev_var rfl) T6.obj (mf_no _ _ _ (by simp)) ea_nil ⟨A, m, rfl, T6, ?_⟩)
          refine ⟨by show 4 ≤ sizeLine; decide, fun p hp => ?_⟩
          have sp6 : Same H6 (upd H6 p (.tup [.ref D, .ref lo, .ref lq, .bl m.strayed])) := Same.new hp
          have loD : lo ≠ D := fun z => by rw [z, hL] at hlo; cases hlo
          have hlo5 : (upd H' lo (.lst uo)) lo = some (.lst uo) := upd_same
          have hD5 : (upd H' lo (.lst uo)) D = some (.lst (as.map V.ref)) := by rw [upd_ne loD.symm]; exact hL
          have lqD : lq ≠ D := fun z => by rw [z, hD5] at hlq; cases hlq
          have lqlo : lq ≠ lo := fun z => by rw [z, hlo5] at hlq; cases hlq
          have all5 : ∀ a ∈ as, ∃ o, H' a = some o := fun a h => by obtain ⟨x, hx⟩ := All2.mem' ha h; exact ⟨_, hx⟩
          have stp : ∀ b o, H' b = some o → upd H6 p (.tup [.ref D, .ref lo, .ref lq, .bl m.strayed]) b = some o := fun b o e => sp6 _ _ (s6 _ _ (Same.new hlo _ _ e))
          refine q _ _ (fun b o e => stp b o (s3 _ _ (S2 _ _ e))) ⟨p, D, lo, lq, as, uo, rfl, upd_same, stp _ _ hL, ha.mono fun a x e => stp _ _ e, sp6 _ _ (s6 _ _ hlo5), huo.mono fun _ _ => PairAt.mono fun b xs e => stp _ _ e, sp6 _ _ eq6, ?_, ?_⟩
          · have n1 : D ∉ as := fun h => (fr D h).2 rfl
            have n2 : lo ∉ as := fun h => by obtain ⟨o, e⟩ := all5 lo h; rw [hlo] at e; cases e
            have n3 : lq ∉ as := fun h => by
              obtain ⟨o, e⟩ := all5 lq h
              have := Same.new (o := .lst uo) hlo _ _ e
              rw [hlq] at this
              cases this
            simp [n1, n2, n3, nd, loD.symm, lqD.symm, lqlo.symm]
          · intro a h
            have S3 : Same H H' := fun b o e => s3 _ _ (S2 _ _ e)
            rcases List.mem_cons.mp h with rfl | h
            · exact hDH
            rcases List.mem_cons.mp h with rfl | h
            · exact free_of S3 hlo
            rcases List.mem_cons.mp h with rfl | h
            · exact free_of (fun b o e => Same.new hlo _ _ (S3 b o e)) hlq
            · exact free_of S2 (fr a h).1
    · rintro s' H' R R' hR ⟨v, hv, a, dx, fs, e1, e2, e3, A, m, e4, T, l, g⟩
      exact ⟨v, hv, a, dx, fs, e1, e2, e3, A, m, e4, T, l, fun H1 s1 => let ⟨k, ek, r⟩ := g H1 s1; ⟨k, ek, hR _ _ r⟩⟩
end SS

set_option Elab.async false
set_option linter.all false
set_option maxRecDepth 100000
set_option maxHeartbeats 4000000
namespace SS
open PySem PySem.Spec PyProof.Rows L2
section
variable {X : Cx}
/-- xs[::k], k one or less one -/
def tStepL (K : PySem.W.Frag) (te ts : TE) : TE := fun σ H Q => te σ H fun x H1 => tPart ts σ H1 fun o H2 => ∃ a xs k, x = .ref a ∧ o = some k ∧ SqL K H2 a xs ∧ (k = 1 ∨ k = -1) ∧ ∀ p, H2 p = none → Q (.ref p) (upd H2 p (.lst (if k = 1 then xs else xs.reverse)))
theorem pe_stepL {e st : Expr} {te ts : TE} {p3 pos : Pos} (he : PE X e te) (hst : PE X st ts) (hsub : ∀ a b, subscripted (.Slice none none (some st) p3) false a b = operate [a, b] (getItem a b) := by intro _ _; rfl) : PE X (.Subscript e (.Slice none none (some st) p3) pos) (tStepL X.K te ts) := by
  refine ⟨fun pins s σ H Q I h => ?_⟩
  refine Subscript_ (thn (he.run pins s σ H _ I h) fun v s1 ⟨x, H1, I1, r1, q1⟩ => ?_)
  refine wpAny_Slice (thn (po_none.run pins s1 σ H1 (fun o H2 => o = none ∧ H2 = H1) I1 ⟨rfl, rfl⟩) fun vl s2 ⟨l, H2, I2, pl, el, e2⟩ => ?_)
  subst el e2
  refine thn (po_none.run pins s2 σ H2 (fun o H3 => o = none ∧ H3 = H2) I2 ⟨rfl, rfl⟩) fun vu s3 ⟨u, H3, I3, pu, eu, e3⟩ => ?_
  subst eu e3
  refine thn ((po_some hst).run pins s3 σ H3 (fun o H4 => ∃ a xs k, x = .ref a ∧ o = some k ∧ SqL X.K H4 a xs ∧ (k = 1 ∨ k = -1) ∧ ∀ p, H4 p = none → Q (.ref p) (upd H4 p (.lst (if k = 1 then xs else xs.reverse)))) I3 q1) fun vs s4 ⟨o, H4, I4, ps, a, xs, kk, ex, eo, hx, hk, q⟩ => ?_
  subst eo ex
  cases r1
  have I5 : Inv X pins σ H4 { s4 with heap := s4.heap.push { cls := .type "slice", data := .fields #[vl, vu, vs] } } := I4.kept (t' := s4.toks) fun b ob q => Heap.get?_push_of_some _ q
  obtain ⟨its, r, ht, hz⟩ := I5.list hx
  have hlen := r.length
  show wpAny (model X.prog X.w) X.A (subscriptTail e (.Slice none none (some st) p3) (.ref a) (.ref s4.heap.objs.size)) (EP X pins σ Q) X.xe { s4 with heap := s4.heap.push { cls := .type "slice", data := .fields #[vl, vu, vs] } }
  refine tail_any (ops := [.ref a, .ref s4.heap.objs.size]) ht.isList.typeIs (PySem.slot_list_getitem.lookup) ?_ (hsub _ _)
  refine wpAny_getItem_list_slice ht.isList (Heap.IsSliceOf.new _ vl vu vs) pl pu ps (by rcases hk with rfl | rfl <;> decide) ?_ (by rw [List.size_toArray]; omega)
  rcases hk with rfl | rfl
  · have e1 : slicePick its.toArray none none (some 1) = its.toArray := by
      have e2 : slicePick its.toArray none none (some 1) = slicePick its.toArray none none none := rfl
      rw [e2, slicePick_cut]
      simp [HT.sIx]
    rw [e1]
    refine ⟨.ref _, _, I5.laid (t' := s4.toks) (o := .lst xs) (fun b ob q => Heap.get?_push_of_some _ q) (Nat.le_refl _) ?_, rfl, ?_⟩
    · exact ⟨hz, _, 0, r, Heap.get?_push_size _ rfl⟩
    · have q' := q _ (I5.hok.fresh (Nat.le_refl _))
      rw [if_pos rfl] at q'
      exact q'
  · rw [PySem.W.krv_pick]
    refine ⟨.ref _, _, I5.laid (t' := s4.toks) (o := .lst xs.reverse) (fun b ob q => Heap.get?_push_of_some _ q) (Nat.le_refl _) ?_, rfl, ?_⟩
    · exact ⟨by rw [List.length_reverse]; exact hz, _, 0, r.reverse, Heap.get?_push_size _ rfl⟩
    · have q' := q _ (I5.hok.fresh (Nat.le_refl _))
      rw [if_neg (by decide)] at q'
      exact q'
end
end SS

set_option Elab.async false
set_option linter.all false
set_option maxRecDepth 100000
set_option maxHeartbeats 4000000
namespace SS
open PySem L2
local macro_rules | `(tactic| walk_at "q") => `(tactic| ((try dsimp only); refine s_seq ?_))

open PySem.Spec PyProof.Rows
/-- x in a tuple of data of any depth -/
def rInDT (K : PySem.W.Frag) : R2 := fun x y H Q => ∃ d ds, Dp K H x d ∧ Dp K H y (.tuple ds) ∧ SeqAt.shaped d = true ∧ SeqAt.shaped (.tuple ds) = true ∧ Q (.bl (ds.any fun z => PyData.eqv z d)) H
theorem room_inT {d : PyData} {ds : List PyData} {u : Nat} (s : SeqAt.shaped d = true) (hu : u + 65 < cLine) : u + 1 + min (PyData.depthAll ds) d.depth < cLine := by
  have h : d.depth ≤ 64 := by
    have := (Bool.and_eq_true _ _ ▸ (show (d.canLay0 && decide (d.depth ≤ 64)) = true from s)).2
    exact of_decide_eq_true this
  have := Nat.min_le_right (PyData.depthAll ds) d.depth
  omega
theorem op_inDT {X : Cx} (hu : X.A.units + 65 < cLine) : OpR X (compareOp .In) (rInDT X.K) := by
  intro pins s σ H x y v u Q I rx ry h
  obtain ⟨d, ds, hd, he, sd, se, q⟩ := h
  obtain ⟨as, r1⟩ := Dp.reads I d x v hd rx
  obtain ⟨bs, r2⟩ := Dp.reads I (.tuple ds) y u he ry
  exact SeqAt.in_tuple_reads r2 r1 (by have := SeqAt.canLay_of_shaped se; simpa [PyData.canLay0] using this) (SeqAt.canLay_of_shaped sd) (room_inT sd hu) ⟨.bl _, H, I, rfl, q⟩
end SS
namespace L2
open PySem
theorem Room.u65 {k : Nat} {A : Around} (r : Room k A) : A.units + 65 < cLine := by have := r.un; omega
end L2

set_option Elab.async false
set_option linter.all false
set_option maxRecDepth 100000
set_option maxHeartbeats 4000000
namespace SS
open PySem L2
open PySem.Spec PyProof.Rows
/-- a list of anything against an empty one -/
def rEqE (K : PySem.W.Frag) : R2 := fun x y H Q => ∃ a b xs, x = .ref a ∧ y = .ref b ∧ SqL K H a xs ∧ SqL K H b [] ∧ Q (.bl xs.isEmpty) H
theorem op_eqE {X : Cx} (hu : X.A.units + 64 < cLine) : OpR X (compareOp .Eq) (rEqE X.K) := by
  intro pins s σ H x y v u Q I rx ry h
  obtain ⟨a, b, xs, rfl, rfl, ha, hb, q⟩ := h
  cases rx
  cases ry
  obtain ⟨ia, ra, hl, _⟩ := I.list ha
  obtain ⟨ib, rb, hl', _⟩ := I.list hb
  cases rb
  cases ra with
  | nil => exact SeqAt.RcAt.lists (e := fun _ => true) hl.isList hl'.isList rfl (by omega) (fun j j1 j2 => absurd j1 (by simp)) X.prog X.w _ _ ⟨.bl _, H, I, rfl, q⟩
  | cons r1 r2 => exact SeqAt.RcAt.lists_lengths hl.isList hl'.isList (by simp) (by omega) X.prog X.w _ _ ⟨.bl _, H, I, rfl, q⟩
end SS

set_option Elab.async false
set_option linter.all false
set_option maxRecDepth 100000
set_option maxHeartbeats 4000000
/-! A dict whose keys are tuples in tuples. -/
namespace SS
open PySem L2
open PySem.Spec PyProof.Rows
/-- the dict at d: its entries are these -/
def ndO (P : Program) (w : World) (d : Addr) (xs : List (NestedKey × Addr × Value)) : HO :=
  .ext fun h => (d == sysModules) = false ∧ xs.length ≤ sizeLine ∧ ∃ o es ep, h.get? d = some o ∧ o.ExactDict ∧ o.data = .dict es ep ∧ es.toList = xs.map (entryOfKey (nestedKind P w)) ∧ (xs.map (·.1)).Nodup
mutual
/-- what stands there is this key -/
inductive NKey (H : Hp) : NestedKey → V → Prop
  | none : NKey H .none .non
  | num (i : Int) : NKey H (.num i) (.int i)
  | bl (b : Bool) : NKey H (.num (if b = true then 1 else 0)) (.bl b)
  | text (x : Str) : NKey H (.text x) (.str x)
  | tup {q : Addr} {vs : List V} {ks : List NestedKey} : H q = some (.tup vs) → NKeys H ks vs → NKey H (.tup ks) (.ref q)
inductive NKeys (H : Hp) : List NestedKey → List V → Prop
  | nil : NKeys H [] []
  | cons {k : NestedKey} {v : V} {ks : List NestedKey} {vs : List V} : NKey H k v → NKeys H ks vs → NKeys H (k :: ks) (v :: vs)
end
mutual
theorem NKey.mono {H H' : Hp} (t : ∀ b xs, H b = some (.tup xs) → H' b = some (.tup xs)) : ∀ {k : NestedKey} {v : V}, NKey H k v → NKey H' k v
  | _, _, .none => .none
  | _, _, .num i => .num i
  | _, _, .bl b => .bl b
  | _, _, .text x => .text x
  | _, _, .tup h z => .tup (t _ _ h) (NKeys.mono t z)
theorem NKeys.mono {H H' : Hp} (t : ∀ b xs, H b = some (.tup xs) → H' b = some (.tup xs)) : ∀ {k : List NestedKey} {v : List V}, NKeys H k v → NKeys H' k v
  | _, _, .nil => .nil
  | _, _, .cons h z => .cons (NKey.mono t h) (NKeys.mono t z)
end
mutual
theorem NKey.is {P : Program} {w : World} {H : Hp} {h : Heap} (ok : L2.HOk P w H h) : ∀ {k : NestedKey} {v : V} {u : Value}, NKey H k v → RelV v u → NestedIs h k u
  | _, _, u, .none, r => by
    cases (show u = .none from r)
    exact .none
  | _, _, u, .num i, r => by
    obtain ⟨t, rfl⟩ := (show ∃ t, u = .int i t from r)
    exact .int i t
  | _, _, u, .bl b, r => by
    cases (show u = .bool b from r)
    exact .bool rfl
  | _, _, u, .text x, r => by
    obtain ⟨t, rfl⟩ := (show ∃ t, u = .str x t from r)
    exact .text x t
  | _, _, u, .tup (q := q) (vs := vs) e z, r => by
    cases (show u = .ref q from r)
    obtain ⟨_, its, rv, ob, h1, h2, n, h3⟩ := (show ObjOk P w H h q (.tup vs) from ok q _ e)
    exact .tup h1 h2 h3 (by simpa using NKeys.is ok z rv)
theorem NKeys.is {P : Program} {w : World} {H : Hp} {h : Heap} (ok : L2.HOk P w H h) : ∀ {k : List NestedKey} {v : List V} {u : List Value}, NKeys H k v → Vals v u → NestedAll h k u
  | _, _, _, .nil, .nil => .nil
  | _, _, _, .cons a b, .cons r s => .cons (NKey.is ok a r) (NKeys.is ok b s)
end
/-- the dict at d has these keys -/
def NdAt (P : Program) (w : World) (H : Hp) (d : Addr) (ks : List NestedKey) : Prop :=
  ∃ xs, H d = some (ndO P w d xs) ∧ xs.map (·.1) = ks ∧ ∀ x ∈ xs, NKey H x.1 (.ref x.2.1) ∧ x.1.depth ≤ 8
theorem NdAt.mono {P : Program} {w : World} {H H' : Hp} {d : Addr} {ks : List NestedKey} (n : NdAt P w H d ks) (hd : ∀ o, H d = some o → H' d = some o) (t : ∀ b xs, H b = some (.tup xs) → H' b = some (.tup xs)) : NdAt P w H' d ks := by
  obtain ⟨xs, h1, h2, h3⟩ := n
  exact ⟨xs, hd _ h1, h2, fun x hx => ⟨(h3 x hx).1.mono t, (h3 x hx).2⟩⟩
theorem nd_of {P : Program} {w : World} {H : Hp} {h : Heap} {d : Addr} {xs : List (NestedKey × Addr × Value)} (ok : L2.HOk P w H h) (e : H d = some (ndO P w d xs)) (his : ∀ x ∈ xs, NKey H x.1 (.ref x.2.1) ∧ x.1.depth ≤ 8) :
    (d == sysModules) = false ∧ xs.length ≤ sizeLine ∧ h.DictOfH (nestedKind P w) d xs := by
  obtain ⟨⟨h1, h2, o, es, ep, h3, h4, h5, h6, h7⟩, _⟩ := (show ObjOk P w H h d (ndO P w d xs) from ok d _ e)
  exact ⟨h1, h2, o, es, ep, h3, h4, h5, h6, fun x hx => ⟨(his x hx).1.is ok rfl, (his x hx).2⟩, h7⟩
theorem nd_new {P : Program} {w : World} {H : Hp} {h : Heap} {d : Addr} {xs : List (NestedKey × Addr × Value)} (hd : (d == sysModules) = false) (hl : xs.length ≤ sizeLine) (z : h.DictOfH (nestedKind P w) d xs) : ObjOk P w H h d (ndO P w d xs) := by
  obtain ⟨o, es, ep, h3, h4, h5, h6, _, h7⟩ := z
  exact ⟨⟨hd, hl, o, es, ep, h3, h4, h5, h6, h7⟩, ⟨o, h3⟩, fun h1 h2 ⟨a, b, o', es', ep', c1, c⟩ k => ⟨a, b, o', es', ep', k _ c1, c⟩⟩
theorem atKey_keys {xs : List (NestedKey × Addr × Value)} {k : NestedKey} : (atKey xs k).isSome = true ↔ k ∈ xs.map (·.1) := by
  unfold atKey
  rw [Option.isSome_map, List.find?_isSome]
  constructor
  · rintro ⟨x, hx, e⟩
    exact List.mem_map.mpr ⟨x, hx, of_decide_eq_true e⟩
  · intro h
    obtain ⟨x, hx, e⟩ := List.mem_map.mp h
    exact ⟨x, hx, decide_eq_true e⟩
/-- k not in d -/
def rNotInN (P : Program) (w : World) : R2 := fun x y H Q => ∃ (a q : Addr) (k : NestedKey) (ks : List NestedKey), x = .ref q ∧ y = .ref a ∧ NKey H k (.ref q) ∧ k.depth ≤ 8 ∧ NdAt P w H a ks ∧ (k ∈ ks → Q (.bl false) H) ∧ (k ∉ ks → Q (.bl true) H)
theorem op_notInN {X : Cx} (hu : X.A.units + 65 < cLine) : OpR X (compareOp .NotIn) (rNotInN X.prog X.w) := by
  intro pins s σ H x y v u Q I rx ry h
  obtain ⟨a, q, k, ks, rfl, rfl, hk, hd, ⟨xs, e, rfl, his⟩, q1, q2⟩ := h
  cases (show v = Value.ref q from rx)
  cases (show u = Value.ref a from ry)
  obtain ⟨n1, n2, n3⟩ := nd_of I.hok e his
  refine notIn_keyed (knd := nestedKind X.prog X.w) (kvs := pairsH xs) (by show X.A.units + 1 + 8 < cLine; omega) ⟨hk.is I.hok rfl, hd⟩ n1 ⟨xs, n3, rfl⟩ ?_
  rw [valueAt_pairsH, Option.isSome_map]
  by_cases z : k ∈ xs.map (·.1)
  · rw [atKey_keys.mpr z]
    exact ⟨.bl false, H, I.tok _, rfl, q1 z⟩
  · have : (atKey xs k).isSome = false := by
      cases e2 : (atKey xs k).isSome with
      | false => rfl
      | true => exact absurd (atKey_keys.mp e2) z
    rw [this]
    exact ⟨.bl true, H, I.tok _, rfl, q2 z⟩
/-- d[k] = v, k not there -/
def sNPut (P : Program) (w : World) (td ty tv : TE) : TS := fun D σ H => tv σ H fun _ H1 => td σ H1 fun x H2 => ty σ H2 fun y H3 => ∃ (a q : Addr) (k : NestedKey) (ks : List NestedKey), x = .ref a ∧ y = .ref q ∧ NKey H3 k (.ref q) ∧ k.depth ≤ 8 ∧ NdAt P w H3 a ks ∧ k ∉ ks ∧ ks.length < sizeLine ∧
  ∀ xs, NdAt P w (upd H3 a (ndO P w a xs)) a (ks ++ [k]) → D.nx σ (upd H3 a (ndO P w a xs))
theorem ndO_tup {P : Program} {w : World} {d : Addr} {xs : List (NestedKey × Addr × Value)} {vs : List V} : ndO P w d xs ≠ .tup vs := fun z => by
  have z' : HO.ext _ = HO.tup vs := z
  cases z'
theorem NdAt.put {P : Program} {w : World} {H : Hp} {a : Addr} {ks : List NestedKey} {xs ys : List (NestedKey × Addr × Value)} (e : H a = some (ndO P w a xs)) (hk : ys.map (·.1) = ks) (his : ∀ x ∈ ys, NKey H x.1 (.ref x.2.1) ∧ x.1.depth ≤ 8) : NdAt P w (upd H a (ndO P w a ys)) a ks := by
  refine ⟨ys, upd_same, hk, fun x hx => ⟨(his x hx).1.mono fun b us hb => ?_, (his x hx).2⟩⟩
  rw [upd_ne (fun z => by rw [z, e] at hb; exact ndO_tup (Option.some.inj hb))]
  exact hb
theorem ps_nput {X : Cx} {o i value : Expr} {pos pos' : Pos} {td ty tv : TE} (hu : X.A.units + 65 < cLine) (ho : PE X o td) (hi : PE X i ty) (hv : PE X value tv) (hs : swapsWith value (some (.Subscript o i pos')) pos.line X.env = pure false) :
    PS X (.Assign [.Subscript o i pos'] value pos) (sNPut X.prog X.w td ty tv) := by
  refine ⟨fun pins s σ H D I h => ?_⟩
  refine wpAny_Assign_Subscript (thn (hv.run pins s σ H _ I h) fun r s1 ⟨v, H1, I1, rv, q1⟩ => thn (ho.run pins s1 σ H1 _ I1 q1) fun u s2 ⟨x, H2, I2, rx, q2⟩ => thn (hi.run pins s2 σ H2 _ I2 q2) fun iv s3 ⟨y, H3, I3, ry, a, q, k, ks, ex, ey, hk, hd, ⟨xs, e, ek, his⟩, nk, hl, q3⟩ => ?_) hs
  subst ex ey
  obtain rfl : u = Value.ref a := rx
  obtain rfl : iv = Value.ref q := ry
  subst ek
  obtain ⟨n1, n2, n3⟩ := nd_of I3.hok e his
  have hn : atKey xs k = none := by
    cases e2 : atKey xs k with
    | none => rfl
    | some p => exact absurd (atKey_keys.mp (by rw [e2]; rfl)) nk
  refine wpAny_setItem_heap (knd := nestedKind X.prog X.w) (hsz := n2) (by show X.A.units + 1 + 8 < cLine; omega) ⟨hk.is I3.hok rfl, hd⟩ n3 fun h' dd' hsb => ?_
  rw [storedH_new hn] at dd'
  have he : ∃ q, h'.get? a = some q := let ⟨q, _, _, hq, _⟩ := dd'; ⟨q, hq⟩
  rw [List.length_map] at hl
  have J := d_write (t' := s3.toks + (nestedKind X.prog X.w).draws k) I3 (by rw [e]; exact True.intro) hsb he (nd_new (H := upd H3 a (ndO X.prog X.w a (xs ++ [(k, q, r)]))) n1 (by rw [List.length_append]; exact hl) dd')
  refine ⟨σ, _, J, q3 _ (NdAt.put e (by rw [List.map_append]; rfl) fun x hx => ?_)⟩
  rcases List.mem_append.mp hx with z | z
  · exact his x z
  · rw [List.mem_singleton.mp z]
    exact ⟨hk, hd⟩
/-- {} -/
def tNdNew (P : Program) (w : World) : TE := fun _ H Q => ∀ p, H p = none → Q (.ref p) (upd H p (ndO P w p []))
theorem nd_empty {P : Program} {w : World} {H : Hp} (h : Heap) (hb : sysModules < h.objs.size) : ObjOk P w H (h.push { cls := .type "dict", data := .dict #[] }) h.objs.size (ndO P w h.objs.size []) :=
  nd_new (beq_eq_false_iff_ne.mpr (Ne.symm (Nat.ne_of_lt hb))) (Nat.zero_le _) (Heap.DictOfH.new h)
theorem pe_ndNew {X : Cx} {pos : Pos} : PE X (.Dict [] [] pos) (tNdNew X.prog X.w) := ⟨fun pins s σ H Q I h =>
  wpAny_Dict_empty ⟨.ref s.heap.objs.size, _, I.laid (a := s.heap.objs.size) (o := ndO X.prog X.w s.heap.objs.size []) (t' := s.toks) (fun _ _ q => Heap.get?_push_of_some _ q) (Nat.le_refl _) (nd_empty s.heap I.big), rfl, h _ (I.hok.fresh (Nat.le_refl _))⟩⟩
theorem NdAt.new {P : Program} {w : World} {H : Hp} {p : Addr} : NdAt P w (upd H p (ndO P w p [])) p [] := ⟨[], upd_same, rfl, fun _ z => by cases z⟩
/-- {k: v} -/
def tNd1 (P : Program) (w : World) (tk tv : TE) : TE := fun σ H Q => ∀ p, H p = none → tPairs [(tk, tv)] σ (upd H p (ndO P w p [])) fun ps H2 => ∃ (q : Addr) (k : NestedKey) (v : V), ps = [(.ref q, v)] ∧ NKey H2 k (.ref q) ∧ k.depth ≤ 8 ∧ H2 p = some (ndO P w p []) ∧
  ∀ xs, NdAt P w (upd H2 p (ndO P w p xs)) p [k] → Q (.ref p) (upd H2 p (ndO P w p xs))
theorem pe_nd1 {X : Cx} {pos : Pos} {k v : Expr} {tk tv : TE} (hu : X.A.units + 65 < cLine) (h : PPs X pos [some k] [v] [(tk, tv)]) : PE X (.Dict [some k] [v] pos) (tNd1 X.prog X.w tk tv) := by
  refine ⟨fun pins s σ H Q I q => ?_⟩
  have hn := I.hok.fresh (Nat.le_refl s.heap.objs.size)
  have I1 := I.laid (a := s.heap.objs.size) (o := ndO X.prog X.w s.heap.objs.size []) (h' := s.heap.push { cls := .type "dict", data := .dict #[] }) (t' := s.toks) (fun _ _ q => Heap.get?_push_of_some _ q) (Nat.le_refl _) (nd_empty s.heap I.big)
  have hpl := pairTrees_length [some k] [v] X.env pos rfl rfl
  have h0 : pairTrees [some k] [v] X.env pos ≠ [] := fun he => by
    rw [he] at hpl
    cases hpl
  rw [arm_eval_Dict, zip_pairTrees [some k] [v] X.env pos rfl rfl, dictDisplay_pairs (pairTrees [some k] [v] X.env pos) h0 (by rw [hpl]; show 1 < 17; omega)]
  refine wpAny_bind (wpAny_standAt (wpAny_bind (wpAny_subDictH (knd := nestedKind X.prog X.w) (by show X.A.units + 8 < cLine; omega) (by rw [hpl]; show 1 ≤ 15; omega) (thn (h.run pins _ σ _ _ I1 (q _ hn)) fun ws s2 ⟨ps, H2, I2, rel, a, ky, y, ep, hk, hd, e, q2⟩ => ?_))))
  subst ep
  cases rel with
  | @cons p1 q1 ps1 qs1 r t =>
    cases t
    obtain ⟨u1, u2⟩ := q1
    obtain ⟨r1, r2⟩ := r
    cases (show u1 = Value.ref a from r1)
    obtain ⟨n1, n2, n3⟩ := nd_of I2.hok e (fun _ z => by cases z)
    refine ⟨[(ky, a, u2)], ⟨rfl, rfl, ⟨hk.is I2.hok rfl, hd⟩, trivial⟩, n3, fun h' tk' dd' hsb => ?_⟩
    have he : ∃ q, h'.get? s.heap.objs.size = some q := let ⟨q, _, _, hq, _⟩ := dd'; ⟨q, hq⟩
    have J := d_write (t' := tk') I2 (by rw [e]; exact True.intro) hsb he (nd_new (H := upd H2 s.heap.objs.size (ndO X.prog X.w s.heap.objs.size [(ky, a, u2)])) n1 (by show 1 ≤ sizeLine; decide) dd')
    exact wpAny_pure ⟨.ref s.heap.objs.size, _, J, rfl, q2 _ (NdAt.put e rfl fun x hx => by rw [List.mem_singleton.mp hx]; exact ⟨hk, hd⟩)⟩
end SS

set_option Elab.async false
set_option linter.all false
set_option maxRecDepth 100000
set_option maxHeartbeats 4000000
/-! Twins and states. -/
namespace SS
open PySem L2
local macro_rules | `(tactic| walk_at "q") => `(tactic| ((try dsimp only); refine s_seq ?_))
/-! ### promises -/
def sp_H_twin (Z : Cs) : Sp := fun vs H Q _ => ∃ (a : HA) (sv : V) (x : Hd) (us : List V) (ds : List Deed), vs = [.ref a.h] ∧ HandO Z H a sv x ∧ H a.prog = some (.lst us) ∧ All2 (DeedAt H) us ds ∧ H a.said = some (.lst (x.said.map ansV)) ∧
  ∀ (b : HA) H', Same H H' → (∀ y ∈ b.ad, H y = none) → b.ad.Nodup → HandO Z H' b sv x → H' b.prog = some (.lst us) → H' b.said = some (.lst (x.said.map ansV)) → Q (.ref b.h) H'
def optK : Option Nat → NestedKey
  | none => .none
  | some n => .num n
def seenK : Option (Nat × Nat) → NestedKey
  | none => .none
  | some (t, c) => .tup [.num t, .num c]
def nkH (k : HKey) : NestedKey := .tup [.num k.1, .num k.2.1, seenK k.2.2.1, optK k.2.2.2.1, .num k.2.2.2.2.1, .num (if k.2.2.2.2.2 = true then 1 else 0)]
def nk (k : Key) : NestedKey := .tup [.tup (k.1.map fun n => .num (n : Nat)), .num k.2.1, .num k.2.2.1, .tup (k.2.2.2.1.map fun n => .num (n : Nat)), .tup (k.2.2.2.2.map nkH)]
def sp_H_state (Z : Cs) : Sp := fun vs H Q _ => ∃ (a : HA) (sv : V) (x : Hd), vs = [.ref a.h] ∧ HandO Z H a sv x ∧ SeenAt H sv x.seen ∧ ∀ q H', H q = none → Same H H' → NKey H' (nkH x.key) (.ref q) → Q (.ref q) H'
def sp_M_twin (Z : Cs) : Sp := fun vs H Q _ => ∃ (A : MA) (m : M), vs = [.ref A.p] ∧ MachAt Z H A m ∧ m.hands.length ≤ 1000 ∧ ∀ (B : MA) H', Same H H' → (∀ a, B.owns a → H a = none) → MachAt Z H' B m → Q (.ref B.p) H'
def sp_M_state (Z : Cs) : Sp := fun vs H Q _ => ∃ (A : MA) (m : M), vs = [.ref A.p] ∧ MachAt Z H A m ∧ m.hands.length ≤ 1000 ∧ ∀ q H', Same H H' → NKey H' (nk m.key) (.ref q) → Q (.ref q) H'

/-- Hand.twin: 0 self, 1 found -/
def t_H_twin (Z : Cs) : TS :=
  tSeq (tAsg (tMake Z.H (sp_H_init Z) [] E0 (tCons (tFld Z.K (tVar 0) "program") tNil)) (gName 1))
    (tSeq (sFld Z.K (tVar 1) (tFld Z.K (tVar 0) "at") "at")
    (tSeq (sFld Z.K (tVar 1) (tFld Z.K (tVar 0) "cell") "cell")
    (tSeq (sFld Z.K (tVar 1) (tFld Z.K (tVar 0) "seen") "seen")
    (tSeq (sFld Z.K (tVar 1) (tFld Z.K (tVar 0) "follow") "follow")
    (tSeq (sFld Z.K (tVar 1) (tFld Z.K (tVar 0) "mark") "mark")
    (tSeq (sFld Z.K (tVar 1) (tFld Z.K (tVar 0) "looked") "looked")
    (tSeq (sFld Z.K (tVar 1) (tCB (rListOf Z.K) (tCons (tFld Z.K (tVar 0) "said") tNil)) "said")
    ((tRet (tVar 1))))))))))
/-- Hand.state: 0 self -/
def t_H_state (Z : Cs) : TS :=
  (tRet (tTup (tCons (tFld Z.K (tVar 0) "at") (tCons (tFld Z.K (tVar 0) "cell") (tCons (tFld Z.K (tVar 0) "seen") (tCons (tFld Z.K (tVar 0) "follow") (tCons (tFld Z.K (tVar 0) "mark") (tCons (tFld Z.K (tVar 0) "looked") tNil))))))))
/-- Machine.twin: 0 self, 1 found, 2 hand -/
def t_M_twin (Z : Cs) : TS :=
  tSeq (tAsg (tMake Z.M (sp_M_init Z) [] E0 (tCons (tLst tNil) (tCons (tLst (tCons (tLst tNil) tNil)) (tCons (tTup (tCons (tC (.str "keeps")) tNil)) tNil)))) (gName 1))
    (tSeq (sFld Z.K (tVar 1) (tFld Z.K (tVar 0) "rule") "rule")
    (tSeq (sFld Z.K (tVar 1) (tCB (rListOf Z.K) (tCons (tFld Z.K (tVar 0) "worths") tNil)) "worths")
    (tSeq (sFld Z.K (tVar 1) (tCB (rListOf Z.K) (tCons (tFld Z.K (tVar 0) "links") tNil)) "links")
    (tSeq (sFld Z.K (tVar 1) (tFld Z.K (tVar 0) "top") "top")
    (tSeq (sFld Z.K (tVar 1) (tFld Z.K (tVar 0) "count") "count")
    (tSeq (sFld Z.K (tVar 1) (tCB (rListOf Z.K) (tCons (tFld Z.K (tVar 0) "freed") tNil)) "freed")
    (tSeq (sFld Z.K (tVar 1) (tLc (iList Z.K (tFld Z.K (tVar 0) "hands")) (gName 2) tYes (tMeth Z.H "twin" (sp_H_twin Z) [] E0 (tVar 2) tNil) [2]) "hands")
    (tSeq (sFld Z.K (tVar 1) (tCB (rListOf Z.K) (tCons (tFld Z.K (tVar 0) "ends") tNil)) "ends")
    (tSeq (sFld Z.K (tVar 1) (tFld Z.K (tVar 0) "strayed") "strayed")
    ((tRet (tVar 1))))))))))))
/-- Machine.state: 0 self, 1 hands, 2 hand -/
def t_M_state (Z : Cs) : TS :=
  tSeq (tAsg (tCB (rTupleOf Z.K) (tCons (tLc (iList Z.K (tFld Z.K (tVar 0) "hands")) (gName 2) tYes (tMeth Z.H "state" (sp_H_state Z) [] E0 (tVar 2) tNil) [2]) tNil)) (gName 1))
    ((tRet (tTup (tCons (tCB (rTupleOf Z.K) (tCons (tFld Z.K (tVar 0) "links") tNil)) (tCons (tFld Z.K (tVar 0) "top") (tCons (tFld Z.K (tVar 0) "count") (tCons (tCB (rTupleOf Z.K) (tCons (tFld Z.K (tVar 0) "freed") tNil)) (tCons (tVar 1) tNil))))))))

/-! ### an object of ours in the making -/
structure Mk9 (H Hi : Hp) (p C dx : Addr) (fs : List (Str × V)) (ls : List (Addr × HO)) : Prop where
  same : Same H Hi
  hp : H p = none
  at_ : Hi p = some (.ins C dx fs)
  tells : ∀ x ∈ ls, Hi x.1 = some x.2 ∧ H x.1 = none ∧ x.1 ≠ p
  nd : (ls.map (·.1)).Nodup
section
variable {H Hi Hj : Hp} {p C dx l : Addr} {fs fs' : List (Str × V)} {ls : List (Addr × HO)} {o : HO}
theorem Mk9.fld (M0 : Mk9 H Hi p C dx fs ls) (fs' : List (Str × V)) : Mk9 H (upd Hi p (.ins C dx fs')) p C dx fs' ls :=
  ⟨same_newer M0.same M0.hp, M0.hp, upd_same, fun x hx => ⟨by rw [upd_ne (M0.tells x hx).2.2]; exact (M0.tells x hx).1, (M0.tells x hx).2⟩, M0.nd⟩
theorem Mk9.grow (M0 : Mk9 H Hi p C dx fs ls) (c : Same Hi Hj) (hl : Hi l = none) (ho : Hj l = some o) : Mk9 H Hj p C dx fs ((l, o) :: ls) := by
  refine ⟨Same.trans M0.same c, M0.hp, c _ _ M0.at_, fun x hx => ?_, ?_⟩
  · rcases List.mem_cons.mp hx with rfl | hx
    · exact ⟨ho, free_of M0.same hl, (ne_of_none M0.at_ hl).symm⟩
    · exact ⟨c _ _ (M0.tells x hx).1, (M0.tells x hx).2⟩
  · rw [List.map_cons, List.nodup_cons]
    refine ⟨fun z => ?_, M0.nd⟩
    obtain ⟨x, hx, e⟩ := List.mem_map.mp z
    have := (M0.tells x hx).1
    rw [e, hl] at this
    cases this
theorem Mk9.new (M0 : Mk9 H Hi p C dx fs ls) (hl : Hi l = none) : Mk9 H (upd Hi l o) p C dx fs ((l, o) :: ls) := M0.grow (Same.new hl) hl upd_same
theorem s_mk {K : PySem.W.Frag} {D : Ends} {s : L2.St} {ta te : TE} {f : Str} {v : V} (M0 : Mk9 H Hi p C dx fs ls) (ha : Ev ta s Hi (.ref p)) (c : Cls K C) (n : NoAttr K C f) (hl : fs.length < 1000) (e : putF f v fs = fs') (hv : Ev te s Hi v)
    (k : ∀ H', Mk9 H H' p C dx fs' ls → (∀ b o, Hi b = some o → b ≠ p → H' b = some o) → D.nx s H') : sFld K ta te f D s Hi :=
  s_fld hv ha M0.at_ c n hl (by rw [e]; exact k _ (M0.fld fs') fun b o hb hn => by rw [upd_ne hn]; exact hb)
theorem s_mkL {K : PySem.W.Frag} {D : Ends} {s : L2.St} {ta tb : TE} {f : Str} {q : Addr} {xs : List V} (M0 : Mk9 H Hi p C dx fs ls) (ha : ∀ H', Ev ta s H' (.ref p)) (c : Cls K C) (n : NoAttr K C f) (hl : fs.length < 1000) (hb : Ev tb s Hi (.ref q)) (hq : SqL K Hi q xs)
    (k : ∀ l H', Hi l = none → Mk9 H H' p C dx (putF f (.ref l) fs) ((l, .lst xs) :: ls) → (∀ b o, Hi b = some o → b ≠ p → H' b = some o) → D.nx s H') : sFld K ta (tCB (rListOf K) (tCons tb tNil)) f D s Hi := by
  refine e_listOf hb (.inl hq) fun l hl1 => ?_
  show sFld K ta (tC (.ref l)) f D s _
  refine s_mk (M0.new hl1) (ha _) c n hl rfl ev_c fun H' M1 b1 => k l H' hl1 M1 fun b o hb hn => b1 b o (Same.new hl1 b o hb) hn
end
section
variable (a : HA) (sv : V) (x : Hd) (l : Addr) (A : MA) (m : M)
theorem pf_said : putF "said" (.ref l) (hf a sv x) = hf { a with said := l } sv x := by kernel_rfl
theorem pm_rule : putF "rule" (.ref l) (mf A m) = mf { A with rule := l } m := by kernel_rfl
theorem pm_worths : putF "worths" (.ref l) (mf A m) = mf { A with worths := l } m := by kernel_rfl
theorem pm_links : putF "links" (.ref l) (mf A m) = mf { A with links := l } m := by kernel_rfl
theorem pm_freed : putF "freed" (.ref l) (mf A m) = mf { A with freed := l } m := by kernel_rfl
theorem pm_hands : putF "hands" (.ref l) (mf A m) = mf { A with handsL := l } m := by kernel_rfl
theorem pm_ends : putF "ends" (.ref l) (mf A m) = mf { A with ends := l } m := by kernel_rfl
end
theorem pure_H_twin {Z : Cs} (k : ZOk Z) (vs : List V) (H : Hp) (Q : VK) (E : XK) (h : sp_H_twin Z vs H Q E) : t_H_twin Z { nx := fun _ H' => Q .non H', rt := Q } (start ["self", "found"] vs) H := by
  obtain ⟨a, sv, x, us, ds, rfl, O, hP, hd, hS, q⟩ := h
  unfold t_H_twin
  walk_at "q"
  refine s_asg_of (t_make_of ((ea_cons (eh_program k O (ev_var rfl)) ea_nil) _ fun y dx hy hdx ne => ?_))
  have s1 : Same H (upd (upd H dx (.own y)) y (.ins Z.H dx [])) := fun b o e => by
    rw [upd_ne (ne_of_none e hy), upd_ne (ne_of_none e hdx)]
    exact e
  refine ⟨y, dx, a.prog, us, ds, rfl, upd_same, s1 _ _ hP, hd.mono fun _ _ => DeedAt.mono fun b xs e => s1 _ _ e, ?_⟩
  intro b H2 eb hpn hsn nps O2 P2 S2 bt
  refine ⟨rfl, ?_⟩
  have s2 : Same H H2 := Same.made hy hdx bt
  have hbn : H b.h = none := by rw [eb]; exact hy
  have bpn : H b.prog = none := free_of s1 hpn
  have nhp : b.h ≠ b.prog := fun e => by rw [← e, eb, upd_same] at hpn; cases hpn
  have M0 : Mk9 H H2 b.h Z.H b.dx (hf b .non {}) [(b.prog, .lst us)] := ⟨s2, hbn, O2, fun z hz => by rw [List.mem_singleton.mp hz]; exact ⟨P2, bpn, nhp.symm⟩, by simp⟩
  rw [← eb]
  show ({ nx := _, rt := Q : Ends }).nx _ _
  walk_at "q"
  have O' : ∀ {H'}, Same H H' → HandO Z H' a sv x := fun c => c _ _ O
  refine s_mk M0 (ev_var rfl) k.clH k.h_at hf_len (pf_at _ _ _ _) (eh_at k (O' M0.same) (ev_var rfl)) fun H3 M3 _ => ?_
  walk_at "q"
  refine s_mk M3 (ev_var rfl) k.clH k.h_cell hf_len (pf_cell _ _ _ _) (eh_cell k (O' M3.same) (ev_var rfl)) fun H4 M4 _ => ?_
  walk_at "q"
  refine s_mk M4 (ev_var rfl) k.clH k.h_seen hf_len (pf_seenX x.seen) (eh_seen k (O' M4.same) (ev_var rfl)) fun H5 M5 _ => ?_
  walk_at "q"
  refine s_mk M5 (ev_var rfl) k.clH k.h_follow hf_len (pf_follow _ _ _ _) (eh_follow k (O' M5.same) (ev_var rfl)) fun H6 M6 _ => ?_
  walk_at "q"
  refine s_mk M6 (ev_var rfl) k.clH k.h_mark hf_len (pf_mark _ _ _ _) (eh_mark k (O' M6.same) (ev_var rfl)) fun H7 M7 _ => ?_
  walk_at "q"
  refine s_mk M7 (ev_var rfl) k.clH k.h_looked hf_len (pf_looked _ _ _ _) (eh_looked k (O' M7.same) (ev_var rfl)) fun H8 M8 _ => ?_
  walk_at "q"
  refine s_mkL M8 (fun _ => ev_var rfl) k.clH k.h_said hf_len (eh_said k (O' M8.same) (ev_var rfl)) (SqL.of (M8.same _ _ hS)) fun l H9 hl M9 _ => ?_
  rw [pf_said] at M9
  refine s_ret_of (ev_var (v := .ref b.h) rfl _ (q { b with said := l } H9 M9.same (fun y hy => ?_) ?_ M9.at_ ?_ ?_))
  · simp only [HA.ad, List.mem_cons, List.not_mem_nil, or_false] at hy
    rcases hy with rfl | rfl | rfl
    · exact hbn
    · exact (M9.tells _ List.mem_cons_self).2.1
    · exact bpn
  · have n1 := (M9.tells _ List.mem_cons_self).2.2
    have n2 := M9.nd
    simp only [List.map_cons, List.map_nil, List.nodup_cons, List.mem_singleton] at n2
    simp only [HA.ad, List.nodup_cons, List.mem_cons, List.not_mem_nil, or_false, not_or]
    exact ⟨⟨fun e => n1 e.symm, nhp⟩, n2.1, by simp⟩
  · exact (M9.tells (b.prog, .lst us) (by simp)).1
  · exact (M9.tells _ List.mem_cons_self).1
theorem NKeys.nums {H : Hp} : ∀ (l : List Nat), NKeys H (l.map fun n => .num (n : Nat)) (l.map natV)
  | [] => .nil
  | n :: l => .cons (.num n) (NKeys.nums l)
theorem optN {H : Hp} : ∀ (o : Option Nat), NKey H (optK o) (optV o)
  | none => .none
  | some n => .num n
theorem seenN {H : Hp} {sv : V} : ∀ {o : Option (Nat × Nat)}, SeenAt H sv o → NKey H (seenK o) sv
  | none, h => by
    rw [show sv = .non from h]
    exact .none
  | some (t, c), ⟨q, e, h⟩ => by
    rw [e]
    exact .tup h (.cons (.num t) (.cons (.num c) .nil))
theorem pure_H_state {Z : Cs} (k : ZOk Z) (vs : List V) (H : Hp) (Q : VK) (E : XK) (h : sp_H_state Z vs H Q E) : t_H_state Z { nx := fun _ H' => Q .non H', rt := Q } (start ["self"] vs) H := by
  obtain ⟨a, sv, x, rfl, O, S, q⟩ := h
  unfold t_H_state
  refine s_ret_of (e_tup (ea_cons (eh_at k O (ev_var rfl)) (ea_cons (eh_cell k O (ev_var rfl)) (ea_cons (eh_seen k O (ev_var rfl)) (ea_cons (eh_follow k O (ev_var rfl)) (ea_cons (eh_mark k O (ev_var rfl)) (ea_cons (eh_looked k O (ev_var rfl)) ea_nil)))))) (by show 6 ≤ 1000; decide) fun p hp => ?_)
  refine q p _ hp (Same.new hp) (.tup upd_same (.cons (.num _) (.cons (.num _) (.cons (seenN (S.mono fun b xs e => Same.new hp b _ e)) (.cons (optN _) (.cons (.num _) (.cons (.bl _) .nil)))))))
end SS

set_option Elab.async false
set_option linter.all false
set_option maxRecDepth 100000
set_option maxHeartbeats 4000000
namespace SS
open PySem L2
local macro_rules | `(tactic| walk_at "q") => `(tactic| ((try dsimp only); refine s_seq ?_))
structure Brood (Hc H : Hp) (D : Addr) (as : List HA) (P : Nat → HA → Hp → Prop) : Prop where
  same : Same Hc H
  list : H D = some (.lst (as.map fun a => V.ref a.h))
  ok : ∀ (j : Nat) (a : HA), as[j]? = some a → P j a H
  there : ∀ (j : Nat) (a : HA), as[j]? = some a → ∀ x ∈ a.ad, H x ≠ none ∧ Hc x = none ∧ x ≠ D
  wi : ∀ (j : Nat) (a : HA), as[j]? = some a → a.ad.Nodup
  hh : ∀ (i j : Nat) (a b : HA) (x : Addr), as[i]? = some a → as[j]? = some b → x ∈ a.ad → x ∈ b.ad → i = j
def PStab (P : Nat → HA → Hp → Prop) : Prop := ∀ j a H H', P j a H → (∀ x ∈ a.ad, ∀ o, H x = some o → H' x = some o) → Tups H H' → P j a H'
theorem Brood.more {Hc H H2 : Hp} {D : Addr} {as : List HA} {P : Nat → HA → Hp → Prop} (y : Brood Hc H D as P) (st : PStab P) (hDc : Hc D = none) {a : HA} (hn : ∀ x ∈ a.ad, H x = none) (nd : a.ad.Nodup) (s2 : Same H H2) (p : P as.length a H2) (th : ∀ x ∈ a.ad, H2 x ≠ none) :
    Brood Hc (upd H2 D (.lst ((as.map fun a => V.ref a.h) ++ [.ref a.h]))) D (as ++ [a]) P := by
  have nD : ∀ x, x ∈ a.ad → x ≠ D := fun x hx e => by
    have := hn x hx
    rw [e, y.list] at this
    cases this
  have tup : Tups H2 (upd H2 D (.lst ((as.map fun a => V.ref a.h) ++ [.ref a.h]))) := fun b xs e => by
    rw [upd_ne (fun z => by rw [z, s2 _ _ y.list] at e; cases e)]
    exact e
  refine ⟨same_newer (Same.trans y.same s2) hDc, by rw [upd_same, List.map_append] <;> rfl, fun j b hb => ?_, fun j b hb x hx' => ?_, fun j b hb => ?_, fun i j b c x hb hc h1 h2 => ?_⟩
  · rcases snoc_get hb with hb | ⟨e, rfl⟩
    · refine st j b H _ (y.ok j b hb) (fun x hx o ho => ?_) fun c xs e => tup _ _ (s2 _ _ e)
      rw [upd_ne (y.there j b hb x hx).2.2]
      exact s2 _ _ ho
    · rw [e]
      refine st _ b H2 _ p (fun x hx o ho => ?_) tup
      rw [upd_ne (nD x hx)]
      exact ho
  · rcases snoc_get hb with hb | ⟨_, rfl⟩
    · obtain ⟨h1, h2, h3⟩ := y.there j b hb x hx'
      refine ⟨?_, h2, h3⟩
      rw [upd_ne h3]
      cases z : H x with
      | none => exact absurd z h1
      | some o =>
        rw [s2 _ _ z]
        exact fun e => by cases e
    · refine ⟨?_, free_of y.same (hn x hx'), nD x hx'⟩
      rw [upd_ne (nD x hx')]
      exact th x hx'
  · rcases snoc_get hb with hb | ⟨_, rfl⟩
    · exact y.wi j b hb
    · exact nd
  · rcases snoc_get hb with hb' | ⟨e1, eb⟩
    · rcases snoc_get hc with hc' | ⟨e2, ec⟩
      · exact y.hh i j b c x hb' hc' h1 h2
      · exact absurd (hn x (by rw [← ec]; exact h2)) (y.there i b hb' x h1).1
    · rcases snoc_get hc with hc' | ⟨e2, ec⟩
      · exact absurd (hn x (by rw [← eb]; exact h1)) (y.there j c hc' x h2).1
      · rw [e1, e2]
/-- the j-th hand's twin stands at a -/
def TwP (Z : Cs) (m : M) (j : Nat) (a : HA) (H : Hp) : Prop := (∃ sv, HandO Z H a sv (m.hd j) ∧ SeenAt H sv (m.hd j).seen) ∧ H a.said = some (.lst ((m.hd j).said.map ansV)) ∧ ∃ us, H a.prog = some (.lst us) ∧ All2 (DeedAt H) us (m.prog j)
theorem TwP.stab {Z : Cs} {m : M} : PStab (TwP Z m) := fun j a H H' ⟨⟨sv, h1, h2⟩, h3, us, h4, h5⟩ c t =>
  ⟨⟨sv, c a.h (by simp [HA.ad]) _ h1, h2.mono t⟩, c a.said (by simp [HA.ad]) _ h3, us, c a.prog (by simp [HA.ad]) _ h4, h5.mono fun _ _ => DeedAt.mono t⟩
theorem pure_M_twin {Z : Cs} (k : ZOk Z) (vs : List V) (H : Hp) (Q : VK) (E : XK) (h : sp_M_twin Z vs H Q E) : t_M_twin Z { nx := fun _ H' => Q .non H', rt := Q } (start ["self", "found", "hand"] vs) H := by
  obtain ⟨A, m, rfl, T, hm, q⟩ := h
  unfold t_M_twin
  walk_at "q"
  refine s_asg_of (t_make_of (t_cons_of (e_lst ea_nil (by show 0 ≤ 1000; decide) fun l1 hl1 => t_cons_of (t_lst_of (t_cons_of (e_lst ea_nil (by show 0 ≤ 1000; decide) fun l2 hl2 => ⟨by show 1 ≤ sizeLine; decide, fun l3 hl3 => t_cons_of (e_tup (ea_cons ev_c ea_nil) (by show 1 ≤ 1000; decide) fun l4 hl4 => ?_)⟩))))))
  have c1 : Same H (upd H l1 (.lst [])) := Same.new hl1
  have g1 : (upd H l1 (.lst [])) l1 = some (.lst []) := upd_same
  generalize upd H l1 (.lst []) = H1 at hl2 c1 g1 hl3 hl4 ⊢
  have c2 : Same H1 (upd H1 l2 (.lst [])) := Same.new hl2
  have g2 : (upd H1 l2 (.lst [])) l2 = some (.lst []) := upd_same
  generalize upd H1 l2 (.lst []) = H2 at hl3 c2 g2 hl4 ⊢
  have c3 : Same H2 (upd H2 l3 (.lst [.ref l2])) := Same.new hl3
  have g3 : (upd H2 l3 (.lst [.ref l2])) l3 = some (.lst [.ref l2]) := upd_same
  generalize upd H2 l3 (.lst [.ref l2]) = H3 at hl4 c3 g3 ⊢
  have c4 : Same H3 (upd H3 l4 (.tup [.str "keeps"])) := Same.new hl4
  have g4 : (upd H3 l4 (.tup [.str "keeps"])) l4 = some (.tup [.str "keeps"]) := upd_same
  generalize upd H3 l4 (.tup [.str "keeps"]) = H4 at c4 g4 ⊢
  show ∀ (x dx : Addr), H4 x = none → _
  intro x dx hx hdx ne
  have c5 : Same H4 (upd (upd H4 dx (.own x)) x (.ins Z.M dx [])) := fun b o e => by
    rw [upd_ne (ne_of_none e hx), upd_ne (ne_of_none e hdx)]
    exact e
  have ok0 : okIn [] [[]] .keeps := ⟨by decide, (fun v hv => by cases hv), ⟨by decide, by decide⟩, (fun p hp => by rw [List.mem_singleton.mp hp]; decide), (fun p hp d hd => by rw [List.mem_singleton.mp hp] at hd; cases hd), trivial⟩
  refine ⟨x, dx, l1, l3, l4, [], [[]], .keeps, rfl, upd_same, SqL.of (c5 _ _ (c4 _ _ (c3 _ _ (c2 _ _ g1)))), ⟨[.ref l2], SqL.of (c5 _ _ (c4 _ _ g3)), .cons ⟨l2, [], rfl, c5 _ _ (c4 _ _ (c3 _ _ g2)), .nil⟩ .nil⟩, c5 _ _ g4, ok0, fun A0 H5 eA own T0 bt => ⟨rfl, ?_⟩⟩
  have c6 : Same H4 H5 := Same.made hx hdx bt
  have c7 : Same H H5 := Same.trans (Same.trans (Same.trans (Same.trans c1 c2) c3) c4) c6
  have c14 : Same H H4 := Same.trans (Same.trans (Same.trans c1 c2) c3) c4
  rw [← eA]
  have M0 : Mk9 H H5 A0.p Z.M A0.dx (mf A0 (M.begin_ [] [[]] .keeps)) [] := ⟨c7, by rw [eA]; exact free_of c14 hx, T0.obj, (fun z hz => by cases hz), .nil⟩
  generalize M.begin_ [] [[]] .keeps = m0 at M0
  clear T0 c1 c2 c3 c4 c5 c6 c7 c14 g1 g2 g3 g4 hx hdx bt own eA
  show ({ nx := _, rt := Q : Ends }).nx _ _
  walk_at "q"
  have T' : ∀ {H'}, Same H H' → MachAt Z H' A m := fun c => T.same c
  refine s_mk M0 (ev_var rfl) k.clM k.m_rule mf_len (pm_rule _ _ _) (em_rule k (T' M0.same) (ev_var rfl)) fun H6 M6 _ => ?_
  walk_at "q"
  refine s_mkL M6 (fun _ => ev_var rfl) k.clM k.m_worths mf_len (em_worths k (T' M6.same) (ev_var rfl)) (SqL.of (T' M6.same).worthsL) fun lw H7 hlw M7 _ => ?_
  rw [pm_worths] at M7
  walk_at "q"
  refine s_mkL M7 (fun _ => ev_var rfl) k.clM k.m_links mf_len (em_links k (T' M7.same) (ev_var rfl)) (SqL.of (T' M7.same).linksL) fun ll H8 hll M8 _ => ?_
  rw [pm_links] at M8
  walk_at "q"
  refine s_mk M8 (ev_var rfl) k.clM k.m_top mf_len (pf_top _ _ _) (em_top k (T' M8.same) (ev_var rfl)) fun H9 M9 _ => ?_
  walk_at "q"
  refine s_mk M9 (ev_var rfl) k.clM k.m_count mf_len (pf_count _ _ _) (em_count k (T' M9.same) (ev_var rfl)) fun H10 M10 _ => ?_
  walk_at "q"
  refine s_mkL M10 (fun _ => ev_var rfl) k.clM k.m_freed mf_len (em_freed k (T' M10.same) (ev_var rfl)) (SqL.of (T' M10.same).freedL) fun lf H11 hlf M11 _ => ?_
  rw [pm_freed] at M11
  walk_at "q"
  have T11 := T' M11.same
  refine e_lcL (em_hands k T11 (ev_var rfl)) (SqL.of T11.handsLL) (fun D i H' => ∃ as : List HA, as.length = i ∧ Brood H11 H' D as (TwP Z m)) (fun D hD => ⟨[], rfl, Same.new hD, upd_same, by simp, by simp, by simp, by simp⟩) (fun D i H' _ _ p => ?_) (fun D i x H' hx hD hy => ?_) (fun D H' hD hy => ?_)
  · obtain ⟨as, _, y⟩ := p
    exact Same.seq y.same (SqL.of T11.handsLL)
  · obtain ⟨as, rfl, y⟩ := hy
    rw [List.getElem?_map] at hx
    obtain ⟨a, ha, rfl⟩ := Option.map_eq_some_iff.mp hx
    have Tn := T11.same y.same
    obtain ⟨sv, O, S⟩ := Tn.handO ha
    obtain ⟨us, hP, hd⟩ := Tn.progL ha
    have hi : as.length < A.hs.length := (List.getElem?_eq_some_iff.mp ha).1
    refine ⟨rfl, et_yes _ (iteT ?_)⟩
    refine s_meth (ev_var rfl) O (by kernel_rfl) ea_nil ⟨a, sv, m.hd as.length, us, m.prog as.length, rfl, O, hP, hd, Tn.saidL ha, fun b H2 s2 hn nd O2 P2 S2 => ?_⟩
    refine ⟨_, s2 _ _ y.list, ?_, as ++ [b], by simp, ?_⟩
    · rw [List.length_map]
      have : A.hs.length ≤ 1000 := by
        rw [T.hs]
        exact hm
      exact Nat.lt_of_lt_of_le hi (Nat.le_trans this (by decide))
    · refine y.more TwP.stab hD hn nd s2 ⟨⟨sv, O2, S.mono fun b xs e => s2 _ _ e⟩, S2, us, P2, hd.mono fun _ _ => DeedAt.mono fun b xs e => s2 _ _ e⟩ fun x hx => ?_
      simp only [HA.ad, List.mem_cons, List.not_mem_nil, or_false] at hx
      rcases hx with rfl | rfl | rfl
      · rw [show H2 b.h = _ from O2]; exact fun e => by cases e
      · rw [S2]; exact fun e => by cases e
      · rw [P2]; exact fun e => by cases e
  · obtain ⟨as, hlen, y⟩ := hy
    rw [List.length_map] at hlen
    show sFld Z.K (tVar 1) (tC (.ref D)) "hands" _ _ _
    have M12 := M11.grow y.same hD y.list
    refine s_mk M12 (ev_var rfl) k.clM k.m_hands mf_len (pm_hands _ _ _) ev_c fun H13 M13 b13 => ?_
    walk_at "q"
    obtain ⟨es, hes, he⟩ := (T' M13.same).endsL
    refine s_mkL M13 (fun _ => ev_var rfl) k.clM k.m_ends mf_len (em_ends k (T' M13.same) (ev_var rfl)) (SqL.of hes) fun le H14 hle M14 b14 => ?_
    rw [pm_ends] at M14
    walk_at "q"
    refine s_mk M14 (ev_var rfl) k.clM k.m_strayed mf_len (pf_strayed _ _ _) (em_strayed k (T' M14.same) (ev_var rfl)) fun H15 M15 b15 => ?_
    have npa : ∀ (j : Nat) (a : HA), as[j]? = some a → ∀ x ∈ a.ad, x ≠ A0.p := fun j a ha x hx e => by
      have := (y.there j a ha x hx).2.1
      rw [e, M11.at_] at this
      cases this
    have k13 : ∀ b o, H' b = some o → b ≠ A0.p → H15 b = some o := fun b o e n => b15 _ _ (b14 _ _ (b13 _ _ e n) n) n
    have tup : Tups H' H15 := fun b xs e => k13 b _ e fun z => by rw [z, M12.at_] at e; cases e
    have hT : ∀ (j : Nat) (a : HA), as[j]? = some a → TwP Z m j a H15 := fun j a ha => TwP.stab j a H' H15 (y.ok j a ha) (fun x hx o ho => k13 x o ho (npa j a ha x hx)) tup
    refine s_ret_of (ev_var (v := .ref A0.p) rfl _ ?_)
    refine q { A0 with rule := A.rule, worths := lw, links := ll, freed := lf, handsL := D, ends := le, hs := as } H15 M15.same ?_ ?_
    · rintro z ⟨ro, hro⟩
      have hand : ∀ {i : Nat} {a : HA} {y0 : Addr}, as[i]? = some a → y0 ∈ a.ad → H y0 = none := fun ha hy => free_of M11.same (y.there _ _ ha _ hy).2.1
      cases ro with
      | m =>
        cases hro
        exact M15.hp
      | worths =>
        cases hro
        exact (M15.tells (lw, .lst (m.worths.map V.int)) (by simp)).2.1
      | links =>
        cases hro
        exact (M15.tells (ll, .lst (m.links.map natV)) (by simp)).2.1
      | freed =>
        cases hro
        exact (M15.tells (lf, .lst (m.freed.map natV)) (by simp)).2.1
      | handsL =>
        cases hro
        exact (M15.tells (D, .lst (as.map fun a : HA => V.ref a.h)) (by simp)).2.1
      | ends =>
        cases hro
        exact (M15.tells (le, .lst es) (by simp)).2.1
      | hand i =>
        obtain ⟨b, hb, e⟩ := Option.map_eq_some_iff.mp (show (as[i]?).map (·.h) = some z from hro)
        exact hand hb (by rw [← e]; simp [HA.ad])
      | said i =>
        obtain ⟨b, hb, e⟩ := Option.map_eq_some_iff.mp (show (as[i]?).map (·.said) = some z from hro)
        exact hand hb (by rw [← e]; simp [HA.ad])
      | prog i =>
        obtain ⟨b, hb, e⟩ := Option.map_eq_some_iff.mp (show (as[i]?).map (·.prog) = some z from hro)
        exact hand hb (by rw [← e]; simp [HA.ad])
    · have nd := M15.nd
      have n5 : ∀ x ∈ [le, D, lf, ll, lw], x ≠ A0.p := fun x hx => by
        simp only [List.mem_cons, List.not_mem_nil, or_false] at hx
        rcases hx with rfl | rfl | rfl | rfl | rfl
        · exact (M15.tells (x, .lst es) (by simp)).2.2
        · exact (M15.tells (x, .lst (as.map fun a : HA => V.ref a.h)) (by simp)).2.2
        · exact (M15.tells (x, .lst (m.freed.map natV)) (by simp)).2.2
        · exact (M15.tells (x, .lst (m.links.map natV)) (by simp)).2.2
        · exact (M15.tells (x, .lst (m.worths.map V.int)) (by simp)).2.2
      have out : ∀ (i : Nat) (a : HA), as[i]? = some a → ∀ x ∈ a.ad, x ∉ [A0.p, lw, ll, lf, D, le] := fun i a ha x hx z => by
        obtain ⟨t1, t2, t3⟩ := y.there i a ha x hx
        have old : ∀ o, H11 x = some o → False := fun o e => by rw [t2] at e; cases e
        simp only [List.mem_cons, List.not_mem_nil, or_false] at z
        rcases z with z | z | z | z | z | z
        · exact npa i a ha x hx z
        · exact old _ (by rw [z]; exact (M11.tells (lw, .lst (m.worths.map V.int)) (by simp)).1)
        · exact old _ (by rw [z]; exact (M11.tells (ll, .lst (m.links.map natV)) (by simp)).1)
        · exact old _ (by rw [z]; exact (M11.tells (lf, .lst (m.freed.map natV)) (by simp)).1)
        · exact t3 z
        · cases e : H' x with
          | none => exact t1 e
          | some o =>
            have := b13 _ _ e (npa i a ha x hx)
            rw [z, hle] at this
            cases this
      refine ⟨fun ro z hro => ?_, ?_, ?_, T.ps, ?_⟩
      · cases ro with
        | m =>
          cases hro
          exact ⟨_, M15.at_, rfl⟩
        | worths =>
          cases hro
          exact ⟨_, (M15.tells (lw, .lst (m.worths.map V.int)) (by simp)).1, rfl⟩
        | links =>
          cases hro
          exact ⟨_, (M15.tells (ll, .lst (m.links.map natV)) (by simp)).1, rfl⟩
        | freed =>
          cases hro
          exact ⟨_, (M15.tells (lf, .lst (m.freed.map natV)) (by simp)).1, rfl⟩
        | handsL =>
          cases hro
          exact ⟨_, (M15.tells (D, .lst (as.map fun a : HA => V.ref a.h)) (by simp)).1, rfl⟩
        | ends =>
          cases hro
          refine ⟨_, (M15.tells (le, .lst es) (by simp)).1, es, rfl, he.mono fun _ _ => PairAt.mono fun b xs e => ?_⟩
          exact b15 _ _ (b14 _ _ e fun z => by rw [z, M13.at_] at e; cases e) fun z => by rw [z, M13.at_] at e; cases e
        | hand i =>
          obtain ⟨b, hb, e⟩ := Option.map_eq_some_iff.mp (show (as[i]?).map (·.h) = some z from hro)
          obtain ⟨⟨sv, h1, h2⟩, _⟩ := hT i b hb
          rw [← e]
          exact ⟨_, h1, b, sv, hb, rfl, h2⟩
        | said i =>
          obtain ⟨b, hb, e⟩ := Option.map_eq_some_iff.mp (show (as[i]?).map (·.said) = some z from hro)
          rw [← e]
          exact ⟨_, (hT i b hb).2.1, rfl⟩
        | prog i =>
          obtain ⟨b, hb, e⟩ := Option.map_eq_some_iff.mp (show (as[i]?).map (·.prog) = some z from hro)
          obtain ⟨_, _, us, h1, h2⟩ := hT i b hb
          rw [← e]
          exact ⟨_, h1, us, rfl, h2⟩
      · exact (T' M15.same).rule
      · show as.length = _
        rw [hlen, T.hs]
      · refine sep_of ?_ out y.wi y.hh
        show [A0.p, lw, ll, lf, D, le].Nodup
        have nd2 : [le, D, lf, ll, lw].Nodup := nd
        simp only [List.nodup_cons, List.mem_cons, List.not_mem_nil, or_false, not_or] at nd2 ⊢
        have q1 := n5 le (by simp)
        have q2 := n5 D (by simp)
        have q3 := n5 lf (by simp)
        have q4 := n5 ll (by simp)
        have q5 := n5 lw (by simp)
        obtain ⟨⟨a1, a2, a3, a4⟩, ⟨b1, b2, b3⟩, ⟨d1, d2⟩, e1, _⟩ := nd2
        exact ⟨⟨q5.symm, q4.symm, q3.symm, q2.symm, q1.symm⟩, ⟨fun z => e1 z.symm, fun z => d2 z.symm, fun z => b3 z.symm, fun z => a4 z.symm⟩, ⟨fun z => d1 z.symm, fun z => b2 z.symm, fun z => a3 z.symm⟩, ⟨fun z => b1 z.symm, fun z => a2 z.symm⟩, fun z => a1 z.symm, not_false, .nil⟩
theorem NKeys.snoc {H : Hp} : ∀ {ks : List NestedKey} {vs : List V} {k : NestedKey} {v : V}, NKeys H ks vs → NKey H k v → NKeys H (ks ++ [k]) (vs ++ [v])
  | _, _, _, _, .nil, h => .cons h .nil
  | _, _, _, _, .cons a b, h => .cons a (NKeys.snoc b h)
theorem pure_M_state {Z : Cs} (k : ZOk Z) (vs : List V) (H : Hp) (Q : VK) (E : XK) (h : sp_M_state Z vs H Q E) : t_M_state Z { nx := fun _ H' => Q .non H', rt := Q } (start ["self", "hands", "hand"] vs) H := by
  obtain ⟨A, m, rfl, T, hm, q⟩ := h
  unfold t_M_state
  walk_at "q"
  refine s_asg_of (t_cb_of (t_cons_of (e_lcL (em_hands k T (ev_var rfl)) (SqL.of T.handsLL) (fun D i H' => Same H H' ∧ ∃ us, us.length = i ∧ H' D = some (.lst us) ∧ NKeys H' ((m.hands.take i).map fun x => nkH x.key) us) (fun D hD => ⟨Same.new hD, [], rfl, upd_same, .nil⟩) (fun D i H' _ _ p => Same.seq p.1 (SqL.of T.handsLL)) (fun D i x H' hx hD p => ?_) (fun D H1 hD p => ?_))))
  · obtain ⟨c, us, rfl, hL, hK⟩ := p
    rw [List.getElem?_map] at hx
    obtain ⟨a, ha, rfl⟩ := Option.map_eq_some_iff.mp hx
    have Tn := T.same c
    obtain ⟨sv, O, S⟩ := Tn.handO ha
    have hi : us.length < m.hands.length := T.len ha
    refine ⟨rfl, et_yes _ (iteT ?_)⟩
    refine s_meth (ev_var rfl) O (by kernel_rfl) ea_nil ⟨a, sv, m.hd us.length, rfl, O, S, fun p H2 hp s2 nkp => ?_⟩
    have tp : Tups H2 (upd H2 D (.lst (us ++ [.ref p]))) := fun b xs e => by
      rw [upd_ne (fun z => by rw [z, s2 _ _ hL] at e; cases e)]
      exact e
    refine ⟨us, s2 _ _ hL, Nat.lt_of_lt_of_le hi (Nat.le_trans hm (by decide)), same_newer (Same.trans c s2) hD, us ++ [.ref p], by simp, upd_same, ?_⟩
    rw [List.take_add_one, List.map_append, List.getElem?_eq_getElem hi]
    have e1 : m.hands[us.length] = m.hd us.length := by
      unfold M.hd
      rw [List.getD_eq_getElem?_getD, List.getElem?_eq_getElem hi]
      rfl
    rw [e1]
    exact ((hK.mono fun b xs e => s2 _ _ e).snoc nkp).mono tp
  · obtain ⟨c, us, hl, hL, hK⟩ := p
    rw [List.length_map, T.hs, List.take_length] at hK
    refine ⟨D, us, rfl, .inl ⟨SqL.of hL, fun l hl2 => ?_⟩⟩
    have c2 : Same H1 (upd H1 l (.tup us)) := Same.new hl2
    have g2 : (upd H1 l (.tup us)) l = some (.tup us) := upd_same
    generalize upd H1 l (.tup us) = H2 at c2 g2 ⊢
    have k2 := hK.mono fun b xs e => c2 _ _ e
    have c02 := Same.trans c c2
    show ({ nx := _, rt := Q : Ends }).nx _ _
    dsimp only
    have T2 := T.same c02
    refine s_ret_of (t_tup_of (t_cons_of (em_links k T2 (ev_var rfl) _ ⟨A.links, _, rfl, .inl ⟨SqL.of T2.linksL, fun l3 hl3 => ?_⟩⟩)))
    have c3 : Same H2 (upd H2 l3 (.tup (m.links.map natV))) := Same.new hl3
    have g3 : (upd H2 l3 (.tup (m.links.map natV))) l3 = some (.tup (m.links.map natV)) := upd_same
    generalize upd H2 l3 (.tup (m.links.map natV)) = H3 at c3 g3 ⊢
    have c03 := Same.trans c02 c3
    have T3 := T.same c03
    refine t_cons_of (em_top k T3 (ev_var rfl) _ (t_cons_of (em_count k T3 (ev_var rfl) _ (t_cons_of (em_freed k T3 (ev_var rfl) _ ⟨A.freed, _, rfl, .inl ⟨SqL.of T3.freedL, fun l4 hl4 => ?_⟩⟩)))))
    have c4 : Same H3 (upd H3 l4 (.tup (m.freed.map natV))) := Same.new hl4
    have g4 : (upd H3 l4 (.tup (m.freed.map natV))) l4 = some (.tup (m.freed.map natV)) := upd_same
    generalize upd H3 l4 (.tup (m.freed.map natV)) = H4 at c4 g4 ⊢
    refine t_cons_of (ev_var (v := .ref l) rfl _ ⟨by show 5 ≤ sizeLine; decide, fun p hp => ?_⟩)
    have c5 : Same H4 (upd H4 p (.tup [.ref l3, .int m.top, .int m.count, .ref l4, .ref l])) := Same.new hp
    refine q p _ (Same.trans (Same.trans c03 c4) c5) (.tup upd_same (.cons (.tup (c5 _ _ (c4 _ _ g3)) (NKeys.nums _)) (.cons (.num _) (.cons (.num _) (.cons (.tup (c5 _ _ g4) (NKeys.nums _)) (.cons (.tup (c5 _ _ (c4 _ _ (c3 _ _ g2))) ?_) .nil))))))
    have k5 := k2.mono (H' := upd H4 p (.tup [.ref l3, .int m.top, .int m.count, .ref l4, .ref l])) fun b xs e => c5 _ _ (c4 _ _ (c3 _ _ e))
    show NKeys _ ((m.hands.map Hd.key).map nkH) us
    rw [List.map_map]
    exact k5
end SS

set_option Elab.async false
set_option linter.all false
set_option maxRecDepth 100000
set_option maxHeartbeats 4000000
namespace SS
open PySem L2
open PySem.Spec PyProof.Rows
/-- a list of anything, other than an empty one -/
def rNeE (K : PySem.W.Frag) : R2 := fun x y H Q => ∃ a b xs, x = .ref a ∧ y = .ref b ∧ SqL K H a xs ∧ SqL K H b [] ∧ Q (.bl (!xs.isEmpty)) H
theorem op_neE {X : Cx} (hu : X.A.units + 64 < cLine) : OpR X (compareOp .NotEq) (rNeE X.K) := by
  intro pins s σ H x y v u Q I rx ry h
  obtain ⟨a, b, xs, rfl, rfl, ha, hb, q⟩ := h
  cases rx
  cases ry
  obtain ⟨ia, ra, hl, _⟩ := I.list ha
  obtain ⟨ib, rb, hl', _⟩ := I.list hb
  cases rb
  cases ra with
  | nil => exact SeqAt.RcNeAt.lists (e := fun _ => true) hl.isList hl'.isList rfl (by omega) (fun j j1 j2 => absurd j1 (by simp)) X.prog X.w _ _ ⟨.bl _, H, I, rfl, q⟩
  | cons r1 r2 => exact SeqAt.RcNeAt.lists_lengths hl.isList hl'.isList (by simp) (by omega) X.prog X.w _ _ ⟨.bl _, H, I, rfl, q⟩
end SS

set_option Elab.async false
set_option linter.all false
set_option maxRecDepth 100000
set_option maxHeartbeats 4000000
/-! The search, walked. -/
namespace SS
open PySem L2
open Classical
local macro_rules | `(tactic| walk_at "q") => `(tactic| ((try dsimp only); refine s_seq ?_))
/-! ### keys -/
theorem nums_inj : ∀ {l m : List Nat}, l.map (fun n => NestedKey.num (n : Nat)) = m.map (fun n => NestedKey.num (n : Nat)) → l = m
  | [], [], _ => rfl
  | [], _ :: _, h => by cases h
  | _ :: _, [], h => by cases h
  | a :: l, b :: m, h => by
    simp only [List.map_cons, List.cons.injEq, NestedKey.num.injEq, Int.ofNat.injEq] at h
    rw [nums_inj h.2]
    congr 1
    exact Int.ofNat.inj h.1
theorem optK_inj : ∀ {a b : Option Nat}, optK a = optK b → a = b
  | none, none, _ => rfl
  | none, some _, h => by cases h
  | some _, none, h => by cases h
  | some a, some b, h => by
    have h1 : NestedKey.num (a : Int) = NestedKey.num (b : Int) := h
    injection h1 with h2
    rw [Int.ofNat.inj h2]
theorem seenK_inj : ∀ {a b : Option (Nat × Nat)}, seenK a = seenK b → a = b
  | none, none, _ => rfl
  | none, some (_, _), h => by cases h
  | some (_, _), none, h => by cases h
  | some (a, c), some (b, d), h => by
    have h1 : NestedKey.tup [.num (a : Int), .num (c : Int)] = NestedKey.tup [.num (b : Int), .num (d : Int)] := h
    injection h1 with h2
    injection h2 with h3 h4
    injection h4 with h5 _
    injection h3 with h3
    injection h5 with h5
    rw [Int.ofNat.inj h3, Int.ofNat.inj h5]
theorem nkH_inj {a b : HKey} (h : nkH a = nkH b) : a = b := by
  obtain ⟨a1, a2, a3, a4, a5, a6⟩ := a
  obtain ⟨b1, b2, b3, b4, b5, b6⟩ := b
  have h1 : NestedKey.tup [.num (a1 : Int), .num (a2 : Int), seenK a3, optK a4, .num (a5 : Int), .num (if a6 = true then 1 else 0)] = NestedKey.tup [.num (b1 : Int), .num (b2 : Int), seenK b3, optK b4, .num (b5 : Int), .num (if b6 = true then 1 else 0)] := h
  injection h1 with h1
  injection h1 with e1 h1
  injection h1 with e2 h1
  injection h1 with e3 h1
  injection h1 with e4 h1
  injection h1 with e5 h1
  injection h1 with e6 _
  injection e1 with e1
  injection e2 with e2
  injection e5 with e5
  injection e6 with e6
  have e6' : a6 = b6 := by cases a6 <;> cases b6 <;> first | rfl | (exfalso; simp at e6)
  rw [Int.ofNat.inj e1, Int.ofNat.inj e2, seenK_inj e3, optK_inj e4, Int.ofNat.inj e5, e6']
theorem nkHs_inj : ∀ {l m : List HKey}, l.map nkH = m.map nkH → l = m
  | [], [], _ => rfl
  | [], _ :: _, h => by cases h
  | _ :: _, [], h => by cases h
  | a :: l, b :: m, h => by
    injection h with h1 h2
    rw [nkH_inj h1, nkHs_inj h2]
theorem nk_inj {a b : Key} (h : nk a = nk b) : a = b := by
  obtain ⟨a1, a2, a3, a4, a5⟩ := a
  obtain ⟨b1, b2, b3, b4, b5⟩ := b
  have h1 : NestedKey.tup [.tup (a1.map fun n => .num (n : Nat)), .num (a2 : Int), .num (a3 : Int), .tup (a4.map fun n => .num (n : Nat)), .tup (a5.map nkH)] = NestedKey.tup [.tup (b1.map fun n => .num (n : Nat)), .num (b2 : Int), .num (b3 : Int), .tup (b4.map fun n => .num (n : Nat)), .tup (b5.map nkH)] := h
  injection h1 with h1
  injection h1 with e1 h1
  injection h1 with e2 h1
  injection h1 with e3 h1
  injection h1 with e4 h1
  injection h1 with e5 _
  injection e1 with e1
  injection e2 with e2
  injection e3 with e3
  injection e4 with e4
  injection e5 with e5
  rw [nums_inj e1, Int.ofNat.inj e2, Int.ofNat.inj e3, nums_inj e4, nkHs_inj e5]
theorem depth_nums : ∀ l : List Nat, NestedKey.depthAll (l.map fun n => NestedKey.num (n : Nat)) = 0
  | [] => rfl
  | a :: l => by
    show max 0 (NestedKey.depthAll _) = 0
    rw [depth_nums l]
    rfl
theorem depth_hs : ∀ l : List HKey, NestedKey.depthAll (l.map nkH) ≤ 3
  | [] => by show 0 ≤ 3; omega
  | (a, b, s, f, e, g) :: l => by
    have h1 := depth_hs l
    have h2 : NestedKey.depth (seenK s) ≤ 1 := by
      cases s with
      | none => exact Nat.zero_le _
      | some p => exact Nat.le_refl _
    have h3 : NestedKey.depth (optK f) = 0 := by cases f <;> rfl
    show max (max 0 (max 0 (max (NestedKey.depth (seenK s)) (max (NestedKey.depth (optK f)) (max 0 (max 0 0))))) + 1) (NestedKey.depthAll (l.map nkH)) ≤ 3
    omega
theorem depth_nk (k : Key) : (nk k).depth ≤ 8 := by
  obtain ⟨a1, a2, a3, a4, a5⟩ := k
  have h1 := depth_hs a5
  show max (NestedKey.depthAll (a1.map fun n => NestedKey.num (n : Nat)) + 1) (max 0 (max 0 (max (NestedKey.depthAll (a4.map fun n => NestedKey.num (n : Nat)) + 1) (max (NestedKey.depthAll (a5.map nkH) + 1) 0)))) + 1 ≤ 8
  rw [depth_nums, depth_nums]
  omega
theorem nk_mem {k : Key} {l : List Key} : nk k ∈ l.map nk ↔ k ∈ l := ⟨fun h => by
  obtain ⟨k', h1, h2⟩ := List.mem_map.mp h
  rw [← nk_inj h2]
  exact h1, fun h => List.mem_map.mpr ⟨k, h, rfl⟩⟩
/-! ### the candidates, one by one -/
def restOf (n : Nat) (b : M) (u : List Nat) (h : Nat) : List (List Nat) := (((List.range n).drop h).filter fun h => !(b.run u).rests h).map fun h => u ++ [h]
theorem cands_cons (n : Nat) (b : M) (u : List Nat) (level : List (List Nat)) : cands n b (u :: level) = restOf n b u 0 ++ cands n b level := rfl
theorem restOf_step {n h : Nat} {b : M} {u : List Nat} (hl : h < n) : restOf n b u h = if (b.run u).rests h = true then restOf n b u (h + 1) else (u ++ [h]) :: restOf n b u (h + 1) := by
  unfold restOf
  rw [List.drop_eq_getElem_cons (by rw [List.length_range]; exact hl), List.getElem_range]
  cases e : (b.run u).rests h with
  | true => rw [List.filter_cons_of_neg (by rw [e]; decide), if_pos rfl]
  | false => rw [List.filter_cons_of_pos (by rw [e]; rfl), List.map_cons, if_neg (by decide)]
theorem restOf_end (n : Nat) (b : M) (u : List Nat) : restOf n b u n = [] := by
  unfold restOf
  rw [List.drop_eq_nil_iff.mpr (by rw [List.length_range]; exact Nat.le_refl _)]
  rfl
theorem cands_drop {n i : Nat} {b : M} {level : List (List Nat)} {u : List Nat} (h : level[i]? = some u) : cands n b (level.drop i) = restOf n b u 0 ++ cands n b (level.drop (i + 1)) := by
  obtain ⟨hi, e⟩ := List.getElem?_eq_some_iff.mp h
  rw [List.drop_eq_getElem_cons hi, e, cands_cons]
/-! ### promise and reading -/
def capN : Nat := 16000000
def OptAt (H H' : Hp) (v : V) : Option (List Nat) → Prop
  | none => v = .non
  | some ws => ∃ l, v = .ref l ∧ H l = none ∧ H' l = some (.lst (ws.map natV))
def sp_stale (Z : Cs) : Sp := fun vs H Q _ => ∃ (lv lp lr : Addr) (values : List Int) (ps : List (List Deed)) (r : Rule), vs = [.ref lv, .ref lp, .ref lr] ∧ SqL Z.K H lv (values.map V.int) ∧ ProgsAt Z.K H lp ps ∧ RuleAt H lr r ∧ okIn values ps r ∧ cnt (6 + total ps) 1000 (kinds ps) 1 0 ≤ capN ∧
  ∀ x v H', Same H H' → Found ps.length (M.begin_ values ps r) x → OptAt H H' v x → Q v H'
/-- stale: 0 values, 1 programs, 2 rule, 3 first, 4 met, 5 level, 6 behind, 7 weaving, 8 machine, 9 hand, 10 other -/
def t_stale (Z : Cs) (P : Program) (w : World) : TS :=
  tSeq (tAsg (tMake Z.M (sp_M_init Z) [] E0 (tCons (tVar 0) (tCons (tVar 1) (tCons (tVar 2) tNil)))) (gName 3))
    (tSeq (tAsg (tNd1 P w (tMeth Z.M "state" (sp_M_state Z) [] E0 (tVar 3) tNil) (tC (.bl true))) (gName 4))
    (tSeq (tAsg (tLst (tCons (tTup (tCons (tTup tNil) (tCons (tVar 3) tNil))) tNil)) (gName 5))
    (tSeq (tWhile (tTest (tOp (rNeE Z.K) (tVar 5) (tLst tNil))) (tSeq (tAsg (tLst tNil) (gName 6))
    (tSeq (tFor (iList Z.K (tVar 5)) (gTup Z.K 2 (gCons (gName 7) (gCons (gName 8) gNil))) ((tFor (iRng1 (tCons (tCB (rLen1 Z.K) (tCons (tVar 1) tNil)) tNil)) (gName 9) ((tIfS (tNot (tB (tMeth Z.M "rests" (sp_M_rests Z) [] E0 (tVar 8) (tCons (tVar 9) tNil)))) (tSeq (tAsg (tMeth Z.M "twin" (sp_M_twin Z) [] E0 (tVar 8) tNil) (gName 10))
    (tSeq (tDrop (tMeth Z.M "turn" (sp_M_turn Z) [] E0 (tVar 10) (tCons (tVar 9) tNil)))
    (tSeq (tIfS (tB (tMeth Z.M "is_stale" (sp_M_is_stale Z) [] E0 (tVar 10) tNil)) ((tRet (tOp rCat (tCB (rListOf Z.K) (tCons (tVar 7) tNil)) (tLst (tCons (tVar 9) tNil))))) (tNext))
    ((tIfS (tTest (tOp (rNotInN P w) (tMeth Z.M "state" (sp_M_state Z) [] E0 (tVar 10) tNil) (tVar 4))) (tSeq (sNPut P w (tVar 4) (tMeth Z.M "state" (sp_M_state Z) [] E0 (tVar 10) tNil) (tC (.bl true)))
    ((tDrop (tBM Z.K "list" rAppend (tVar 6) (tCons (tTup (tCons (tOp (rCatA Z.K) (tVar 7) (tTup (tCons (tVar 9) tNil))) (tCons (tVar 10) tNil))) tNil))))) (tNext)))))) (tNext))))))
    ((tAsg (tVar 6) (gName 5))))))
    ((tRet (tC .non))))))
/-! ### what stands in the heap -/
def EntAt (Z : Cs) (b : M) (D : Addr) (H : Hp) (v : V) (w : List Nat) : Prop := ∃ (q t : Addr) (B : MA), v = .ref q ∧ H q = some (.tup [.ref t, .ref B.p]) ∧ H t = some (.tup (w.map natV)) ∧ MachAt Z H B (b.run w) ∧ ∀ a, B.owns a → a ≠ D
theorem EntAt.same {Z : Cs} {b : M} {D : Addr} {H H' : Hp} (c : Same H H') {v : V} {w : List Nat} (h : EntAt Z b D H v w) : EntAt Z b D H' v w := by
  obtain ⟨q, t, B, e, h1, h2, T, n⟩ := h
  exact ⟨q, t, B, e, c _ _ h1, c _ _ h2, T.same c, n⟩
theorem MachAt.nd {Z : Cs} {P : Program} {w : World} {H : Hp} {B : MA} {m : M} {d : Addr} {xs ys : List (NestedKey × Addr × Value)} (T : MachAt Z H B m) (e : H d = some (ndO P w d xs)) : MachAt Z (upd H d (ndO P w d ys)) B m := by
  refine T.chg (F := fun a => a = d) (Chg.put rfl fun u e2 => ?_) fun a ho z => ?_
  · rw [e] at e2
    cases e2
    exact fun z => z
  · obtain ⟨r0, hr0⟩ := ho
    obtain ⟨o, h1, h2⟩ := T.at_ r0 a hr0
    rw [z, e] at h1
    cases h1
    cases r0 with
    | ends => obtain ⟨vs, e3, _⟩ := h2; have e4 : HO.ext _ = HO.lst vs := e3; cases e4
    | hand i => obtain ⟨a', sv, _, e3, _⟩ := h2; have e4 : HO.ext _ = HO.ins _ _ _ := e3; cases e4
    | prog i => obtain ⟨vs, e3, _⟩ := h2; have e4 : HO.ext _ = HO.lst vs := e3; cases e4
    | m => have e4 : HO.ext _ = HO.ins _ _ _ := h2; cases e4
    | worths => have e4 : HO.ext _ = HO.lst _ := h2; cases e4
    | links => have e4 : HO.ext _ = HO.lst _ := h2; cases e4
    | freed => have e4 : HO.ext _ = HO.lst _ := h2; cases e4
    | handsL => have e4 : HO.ext _ = HO.lst _ := h2; cases e4
    | said i => have e4 : HO.ext _ = HO.lst _ := h2; cases e4
theorem nd_tups {P : Program} {w : World} {H : Hp} {d : Addr} {xs ys : List (NestedKey × Addr × Value)} (e : H d = some (ndO P w d xs)) : Tups H (upd H d (ndO P w d ys)) := fun c us e2 => by
  rw [upd_ne (fun z => by rw [z, e] at e2; exact ndO_tup (Option.some.inj e2))]
  exact e2
theorem EntAt.nd {Z : Cs} {P : Program} {w : World} {b : M} {D d : Addr} {H : Hp} {xs ys : List (NestedKey × Addr × Value)} (e : H d = some (ndO P w d xs)) {v : V} {u : List Nat} (h : EntAt Z b D H v u) : EntAt Z b D (upd H d (ndO P w d ys)) v u := by
  obtain ⟨q, t, B, e1, h1, h2, T, n⟩ := h
  exact ⟨q, t, B, e1, nd_tups e _ _ h1, nd_tups e _ _ h2, T.nd e, n⟩
theorem lst_tups {H : Hp} {D : Addr} {xs ys : List V} (e : H D = some (.lst xs)) : Tups H (upd H D (.lst ys)) := fun c us e2 => by
  rw [upd_ne (fun z => by rw [z, e] at e2; cases e2)]
  exact e2
theorem EntAt.fill {Z : Cs} {b : M} {D : Addr} {H : Hp} {xs ys : List V} (e : H D = some (.lst xs)) {v : V} {u : List Nat} (h : EntAt Z b D H v u) : EntAt Z b D (upd H D (.lst ys)) v u := by
  obtain ⟨q, t, B, e1, h1, h2, T, n⟩ := h
  exact ⟨q, t, B, e1, lst_tups e _ _ h1, lst_tups e _ _ h2, T.fill e n, n⟩
/-- a level's new list, behind -/
theorem EntAt.anew {Z : Cs} {b : M} {D D' : Addr} {H : Hp} (hD : H D' = none) {v : V} {u : List Nat} (h : EntAt Z b D H v u) : EntAt Z b D' H v u := by
  obtain ⟨q, t, B, e1, h1, h2, T, n⟩ := h
  exact ⟨q, t, B, e1, h1, h2, T, fun a ho => T.own_ne ho hD⟩
structure MetOk (values : List Int) (ps : List (List Deed)) (r : Rule) (met : List Key) : Prop where
  nd : met.Nodup
  all : ∀ k ∈ met, Reached values ps r 1000 k
theorem live_reach {values : List Int} {ps : List (List Deed)} {r : Rule} (ok : okIn values ps r) {w : List Nat} (l : live ps.length (M.begin_ values ps r) w) : Reached values ps r 1000 ((M.begin_ values ps r).run w).key ∧ w.length < 1000 := by
  have f := Fine.begin_ ok
  have h1 := live_mu l f
  have h2 := f.mu_le
  exact ⟨⟨w, live_in l, by omega, live_stray l rfl, rfl⟩, by omega⟩
/-- within a level -/
structure Bf (Z : Cs) (P : Program) (w : World) (values : List Int) (ps : List (List Deed)) (r : Rule) (H : Hp) (dm L D : Addr) (us : List V) (level : List (List Nat)) (met : List Key) (behind : List (List Nat)) (H' : Hp) : Prop where
  same : Same H H'
  hdm : H dm = none
  hD : H D = none
  nd : NdAt P w H' dm (met.map nk)
  lv : H' L = some (.lst us)
  le2 : All2 (EntAt Z (M.begin_ values ps r) D H') us level
  bh : ∃ us, H' D = some (.lst us) ∧ All2 (EntAt Z (M.begin_ values ps r) D H') us behind
  ne : L ≠ D
  ok : MetOk values ps r met
  le : behind.length ≤ met.length
  live : ∀ c ∈ behind, SS.live ps.length (M.begin_ values ps r) c
end SS

set_option Elab.async false
set_option linter.all false
set_option maxRecDepth 100000
set_option maxHeartbeats 4000000
namespace SS
open PySem L2
open Classical
local macro_rules | `(tactic| walk_at "q") => `(tactic| ((try dsimp only); refine s_seq ?_))
section
variable {Z : Cs} {P : Program} {w : World} {values : List Int} {ps : List (List Deed)} {r : Rule} {H H' H2 : Hp} {dm L D : Addr} {us : List V} {level : List (List Nat)} {met : List Key} {behind : List (List Nat)}
theorem Bf.same' (I : Bf Z P w values ps r H dm L D us level met behind H') (c : Same H' H2) : Bf Z P w values ps r H dm L D us level met behind H2 :=
  ⟨Same.trans I.same c, I.hdm, I.hD, I.nd.mono (fun o e => c _ _ e) fun b xs e => c _ _ e, c _ _ I.lv, I.le2.mono fun _ _ => EntAt.same c, by
    obtain ⟨vs, h1, h2⟩ := I.bh
    exact ⟨vs, c _ _ h1, h2.mono fun _ _ => EntAt.same c⟩, I.ne, I.ok, I.le, I.live⟩
/-- for hand in range(..): if not machine.rests(hand): .. -/
def t_try9 (Z : Cs) (P : Program) (w : World) : TS :=
  (tIfS (tNot (tB (tMeth Z.M "rests" (sp_M_rests Z) [] E0 (tVar 8) (tCons (tVar 9) tNil)))) (tSeq (tAsg (tMeth Z.M "twin" (sp_M_twin Z) [] E0 (tVar 8) tNil) (gName 10))
    (tSeq (tDrop (tMeth Z.M "turn" (sp_M_turn Z) [] E0 (tVar 10) (tCons (tVar 9) tNil)))
    (tSeq (tIfS (tB (tMeth Z.M "is_stale" (sp_M_is_stale Z) [] E0 (tVar 10) tNil)) ((tRet (tOp rCat (tCB (rListOf Z.K) (tCons (tVar 7) tNil)) (tLst (tCons (tVar 9) tNil))))) (tNext))
    ((tIfS (tTest (tOp (rNotInN P w) (tMeth Z.M "state" (sp_M_state Z) [] E0 (tVar 10) tNil) (tVar 4))) (tSeq (sNPut P w (tVar 4) (tMeth Z.M "state" (sp_M_state Z) [] E0 (tVar 10) tNil) (tC (.bl true)))
    ((tDrop (tBM Z.K "list" rAppend (tVar 6) (tCons (tTup (tCons (tOp (rCatA Z.K) (tVar 7) (tTup (tCons (tVar 9) tNil))) (tCons (tVar 10) tNil))) tNil))))) (tNext)))))) (tNext))
theorem try9 (ok : okIn values ps r) (hB : cnt (6 + total ps) 1000 (kinds ps) 1 0 ≤ capN) (I : Bf Z P w values ps r H dm L D us level met behind H') {i h : Nat} {u : List Nat} {q t p0 : Addr} {v0 v1 v2 v3 : V} {y : Option V} {E9 : Ends} (hu : us[i]? = some (.ref q)) (hlv : level[i]? = some u)
    (hq : H' q = some (.tup [.ref t, .ref p0])) (lu : SS.live ps.length (M.begin_ values ps r) u) (hl : h < ps.length)
    (c0 : ((M.begin_ values ps r).run u).rests h = true → E9.nx [some v0, some v1, some v2, some v3, some (.ref dm), some (.ref L), some (.ref D), some (.ref t), some (.ref p0), some (.int h), y] H')
    (c1 : ((M.begin_ values ps r).run u).rests h = false → ((M.begin_ values ps r).run (u ++ [h])).strayed = true → ∀ l Hx, Same H Hx → H l = none → Hx l = some (.lst ((u ++ [h]).map natV)) → E9.rt (.ref l) Hx)
    (c2 : ((M.begin_ values ps r).run u).rests h = false → ((M.begin_ values ps r).run (u ++ [h])).strayed = false → ((M.begin_ values ps r).run (u ++ [h])).key ∈ met → ∀ y2 H2, Bf Z P w values ps r H dm L D us level met behind H2 → H2 q = some (.tup [.ref t, .ref p0]) → E9.nx [some v0, some v1, some v2, some v3, some (.ref dm), some (.ref L), some (.ref D), some (.ref t), some (.ref p0), some (.int h), y2] H2)
    (c3 : ((M.begin_ values ps r).run u).rests h = false → ((M.begin_ values ps r).run (u ++ [h])).strayed = false → ((M.begin_ values ps r).run (u ++ [h])).key ∉ met → ∀ y2 H2, Bf Z P w values ps r H dm L D us level (met ++ [((M.begin_ values ps r).run (u ++ [h])).key]) (behind ++ [u ++ [h]]) H2 → H2 q = some (.tup [.ref t, .ref p0]) →
      E9.nx [some v0, some v1, some v2, some v3, some (.ref dm), some (.ref L), some (.ref D), some (.ref t), some (.ref p0), some (.int h), y2] H2) :
    t_try9 Z P w E9 [some v0, some v1, some v2, some v3, some (.ref dm), some (.ref L), some (.ref D), some (.ref t), some (.ref p0), some (.int h), y] H' := by
  obtain ⟨_, hu2, q', t', B, eq, hq2, ht, T, own⟩ := I.le2.get i hlv
  rw [hu] at hu2
  cases hu2
  cases eq
  rw [hq] at hq2
  cases hq2
  have f : Fine ps r ((M.begin_ values ps r).run u) := (Fine.begin_ ok).run (live_in lu)
  have hn3 : ps.length ≤ 3 := f.plen
  have hm : ((M.begin_ values ps r).run u).hands.length ≤ 1000 := by rw [f.hn]; omega
  obtain ⟨a, ha⟩ := T.hand_of (i := h) (by rw [f.hn]; exact hl)
  obtain ⟨ru, lul⟩ := live_reach ok lu
  unfold t_try9
  refine s_if_of ?_
  refine s_meth (ev_var (v := .ref B.p) rfl) T.obj (mf_no _ _ _ (by simp)) (ea_cons (ev_var (v := .int h) rfl) ea_nil) ⟨B, _, h, a, rfl, T, ha, ⟨_, rfl, ?_⟩⟩
  cases hr : ((M.begin_ values ps r).run u).rests h with
  | true => exact iteF (c0 hr)
  | false =>
    refine iteT ?_
    walk_at "q"
    refine s_asg_of (s_meth (ev_var (v := .ref B.p) rfl) T.obj (mf_no _ _ _ (by simp)) ea_nil ⟨B, _, rfl, T, hm, fun B2 H2 k2 own2 T2 => ?_⟩)
    show ({ nx := _, rt := E9.rt, bk := E9.bk, ct := E9.ct } : Ends).nx _ _
    walk_at "q"
    refine s_drop' (s_turn (A := B2) (n := 10) (h := h) rfl (ev_var rfl) T2 f.wf (by rw [f.hn]; exact hl) fun v H3 T3 C3 _ => ?_)
    have k3 : Same H' H3 := same_own k2 C3 own2
    have e3 : ((M.begin_ values ps r).run u).step h = (M.begin_ values ps r).run (u ++ [h]) := (run_snoc _ _ _).symm
    rw [e3] at T3
    have own3 : ∀ a, B2.owns a → H' a = none := own2
    clear T2 C3 k2
    have f3 : Fine ps r ((M.begin_ values ps r).run (u ++ [h])) := by rw [← e3]; exact f.step hl
    have I3 := I.same' k3
    have q3 := k3 _ _ hq
    have t3 := k3 _ _ ht
    walk_at "q"
    refine s_if_of ?_
    refine s_meth (ev_var (v := .ref B2.p) rfl) T3.obj (mf_no _ _ _ (by simp)) ea_nil ⟨B2, _, rfl, T3, ⟨_, rfl, ?_⟩⟩
    cases hs : ((M.begin_ values ps r).run (u ++ [h])).strayed with
    | true =>
      refine iteT (s_ret_of (t_op_of (e_listOf (ev_var rfl) (.inr (SqT.of t3)) fun l1 hl1 => ?_)))
      have k4 : Same H3 (upd H3 l1 (.lst (u.map natV))) := Same.new hl1
      have g4 : (upd H3 l1 (.lst (u.map natV))) l1 = some (.lst (u.map natV)) := upd_same
      generalize upd H3 l1 (.lst (u.map natV)) = H4 at k4 g4 ⊢
      refine e_lst (ea_cons (ev_var (v := .int h) rfl) ea_nil) (by show 1 ≤ 1000; decide) fun l2 hl2 => ?_
      have k5 : Same H4 (upd H4 l2 (.lst [.int h])) := Same.new hl2
      refine ⟨l1, l2, _, _, rfl, rfl, k5 _ _ g4, upd_same, ?_, fun p hp => ?_⟩
      · rw [List.length_map]
        exact Nat.le_trans (show u.length + 1 ≤ 1001 by omega) (by decide)
      · have kk := Same.trans (Same.trans I3.same k4) k5
        refine c1 hr hs p _ (same_newer kk (free_of kk hp)) (free_of kk hp) ?_
        rw [upd_same, List.map_append]
        rfl
    | false =>
      refine iteF ?_
      dsimp only [tNext]
      have lc : SS.live ps.length (M.begin_ values ps r) (u ++ [h]) := live_snoc.mpr ⟨lu, hl, hr, by rw [e3]; exact hs⟩
      obtain ⟨rc, _⟩ := live_reach ok lc
      refine s_if_of (t_test_of (t_op_of (s_meth (ev_var (v := .ref B2.p) rfl) T3.obj (mf_no _ _ _ (by simp)) ea_nil ⟨B2, _, rfl, T3, by rw [f3.hn]; omega, fun q1 H4 k4 nk4 => ev_var (v := .ref dm) rfl _ ⟨dm, q1, nk _, met.map nk, rfl, rfl, nk4, depth_nk _, (I3.same' k4).nd, fun z => ⟨false, rfl, ?_⟩, fun z => ⟨true, rfl, ?_⟩⟩⟩)))
      · exact iteF (c2 hr hs (nk_mem.mp z) _ _ (I3.same' k4) (k4 _ _ q3))
      · refine iteT ?_
        have nm : ((M.begin_ values ps r).run (u ++ [h])).key ∉ met := fun z2 => z (nk_mem.mpr z2)
        have T4 := T3.same k4
        have I4 := I3.same' k4
        have q4 := k4 _ _ q3
        have t4 := k4 _ _ t3
        have k34 := Same.trans k3 k4
        clear nk4 T3 I3 q3 t3
        walk_at "q"
        refine ev_c _ (ev_var (v := .ref dm) rfl _ (s_meth (ev_var (v := .ref B2.p) rfl) T4.obj (mf_no _ _ _ (by simp)) ea_nil ⟨B2, _, rfl, T4, by rw [f3.hn]; omega, fun q2 H5 k5 nk5 => ?_⟩))
        have I5 := I4.same' k5
        have T5 := T4.same k5
        have q5 := k5 _ _ q4
        have t5 := k5 _ _ t4
        have k35 := Same.trans k34 k5
        have ml : met.length ≤ capN := states_le ok hB I.ok.nd I.ok.all
        refine ⟨dm, q2, nk _, met.map nk, rfl, rfl, nk5, depth_nk _, I5.nd, z, ?_, fun xs nd6 => ?_⟩
        · rw [List.length_map]
          exact Nat.lt_of_le_of_lt ml (by decide)
        obtain ⟨xs0, e5, _⟩ := I5.nd
        have own6 : ∀ a, B2.owns a → a ≠ D := fun a ho e => by
          have := own3 a ho
          obtain ⟨vs, h1, _⟩ := I.bh
          rw [e, h1] at this
          cases this
        have T6 : MachAt Z (upd H5 dm (ndO P w dm xs)) B2 _ := T5.nd e5
        have q6 := nd_tups (ys := xs) e5 _ _ q5
        have t6 := nd_tups (ys := xs) e5 _ _ t5
        have sm6 : Same H (upd H5 dm (ndO P w dm xs)) := same_newer I5.same I.hdm
        have L6 : (upd H5 dm (ndO P w dm xs)) L = some (.lst us) := by
          rw [upd_ne (fun e => by rw [← e, I5.lv] at e5; have e5' : HO.lst us = HO.ext _ := Option.some.inj e5; cases e5')]
          exact I5.lv
        have e26 := I5.le2.mono fun _ _ => EntAt.nd (ys := xs) e5
        obtain ⟨vs, hv5, he5⟩ := I5.bh
        have D6 : (upd H5 dm (ndO P w dm xs)) D = some (.lst vs) := by
          rw [upd_ne (fun e => by rw [← e, hv5] at e5; have e5' : HO.lst vs = HO.ext _ := Option.some.inj e5; cases e5')]
          exact hv5
        have he6 := he5.mono fun _ _ => EntAt.nd (ys := xs) e5
        have g6 : (upd H5 dm (ndO P w dm xs)) dm = some (ndO P w dm xs) := upd_same
        generalize upd H5 dm (ndO P w dm xs) = H6 at nd6 T6 q6 t6 sm6 L6 e26 D6 he6 g6 ⊢
        have vl : vs.length = behind.length := he6.length
        have fin : ∀ {tw p : Addr} {H7 : Hp}, Same H6 H7 → H7 tw = some (.tup ((u ++ [h]).map natV)) → H7 p = none → ∃ ys, (upd H7 p (.tup [.ref tw, .ref B2.p])) D = some (.lst ys) ∧ ys.length < sizeLine ∧
            E9.nx [some v0, some v1, some v2, some v3, some (.ref dm), some (.ref L), some (.ref D), some (.ref t), some (.ref B.p), some (.int h), some (.ref B2.p)] (upd (upd H7 p (.tup [.ref tw, .ref B2.p])) D (.lst (ys ++ [.ref p]))) := by
          intro tw p H7 k7 htw hp
          have k8 : Same H7 (upd H7 p (.tup [.ref tw, .ref B2.p])) := Same.new hp
          have g8 : (upd H7 p (.tup [.ref tw, .ref B2.p])) p = some (.tup [.ref tw, .ref B2.p]) := upd_same
          generalize upd H7 p (.tup [.ref tw, .ref B2.p]) = H8 at k8 g8 ⊢
          have k68 := Same.trans k7 k8
          have D8 := k68 _ _ D6
          refine ⟨vs, D8, ?_, c3 hr hs nm _ _ ⟨?_, I.hdm, I.hD, ?_, ?_, ?_, ?_, I.ne, ?_, ?_, ?_⟩ (lst_tups D8 _ _ (k68 _ _ q6))⟩
          · rw [vl]
            exact Nat.lt_of_le_of_lt (Nat.le_trans I.le ml) (by decide)
          · exact same_newer (Same.trans sm6 k68) I.hD
          · rw [List.map_append]
            refine (nd6.mono (fun o e => k68 _ _ e) fun b ys e => k68 _ _ e).mono (fun o e => ?_) (lst_tups D8)
            rw [upd_ne (fun e2 => by rw [e2] at e; have := k68 _ _ g6; rw [e2, D8] at this; have e4 : HO.lst vs = HO.ext _ := Option.some.inj this; cases e4)]
            exact e
          · rw [upd_ne I.ne]
            exact k68 _ _ L6
          · exact (e26.mono fun _ _ => EntAt.same k68).mono fun _ _ => EntAt.fill D8
          · refine ⟨vs ++ [.ref p], upd_same, ((he6.mono fun _ _ => EntAt.same k68).mono fun _ _ => EntAt.fill D8).snoc ?_⟩
            exact ⟨p, tw, B2, rfl, lst_tups D8 _ _ g8, lst_tups D8 _ _ (k8 _ _ htw), (T6.same k68).fill D8 own6, own6⟩
          · refine ⟨?_, fun k hk => ?_⟩
            · rw [List.nodup_append]
              refine ⟨I.ok.nd, by simp, fun a ha b hb e => ?_⟩
              rw [List.mem_singleton.mp hb] at e
              rw [e] at ha
              exact nm ha
            · rcases List.mem_append.mp hk with z2 | z2
              · exact I.ok.all k z2
              · rw [List.mem_singleton.mp z2]
                exact rc
          · rw [List.length_append, List.length_append]
            exact Nat.add_le_add_right I.le 1
          · intro c hc
            rcases List.mem_append.mp hc with z2 | z2
            · exact I.live c z2
            · rw [List.mem_singleton.mp z2]
              exact lc
        refine s_appX (ev_var (v := .ref D) rfl) D6 (t_tup_of (t_cons_of (t_op_of (ev_var (v := .ref t) rfl _ (e_tup (ea_cons (ev_var (v := .int h) rfl) ea_nil) (by show 1 ≤ 1000; decide) fun p2 hp2 => ?_)))))
        have k7 : Same H6 (upd H6 p2 (.tup [.int h])) := Same.new hp2
        have g7 : (upd H6 p2 (.tup [.int h])) p2 = some (.tup [.int h]) := upd_same
        generalize upd H6 p2 (.tup [.int h]) = H7 at k7 g7 ⊢
        refine ⟨t, p2, u.map natV, [.int h], rfl, rfl, SqT.of (k7 _ _ t6), SqT.of g7, ?_, fun e => ?_, (fun _ e => nomatch e), fun _ _ p3 hp3 => ?_⟩
        · rw [List.length_map]
          exact Nat.le_trans (show u.length + 1 ≤ 1001 by omega) (by decide)
        · refine t_cons_of (ev_var (v := .ref B2.p) rfl _ ⟨by show 2 ≤ sizeLine; decide, fun p hp => fin k7 ?_ hp⟩)
          have : u = [] := List.map_eq_nil_iff.mp e
          rw [this]
          exact g7
        · have k8 : Same H7 (upd H7 p3 (.tup (u.map natV ++ [.int h]))) := Same.new hp3
          refine t_cons_of (ev_var (v := .ref B2.p) rfl _ ⟨by show 2 ≤ sizeLine; decide, fun p hp => fin (Same.trans k7 k8) ?_ hp⟩)
          rw [upd_same, List.map_append]
          rfl
end
end SS

set_option Elab.async false
set_option linter.all false
set_option maxRecDepth 100000
set_option maxHeartbeats 4000000
namespace SS
open PySem L2
open Classical
local macro_rules | `(tactic| walk_at "q") => `(tactic| ((try dsimp only); refine s_seq ?_))
theorem ne_mono {K : PySem.W.Frag} {i : Nat} : ∀ (s' : L2.St) (H' : Hp) (R R' : Bool → Hp → Prop), (∀ b H1, R b H1 → R' b H1) → tTest (tOp (rNeE K) (tVar i) (tLst tNil)) s' H' R → tTest (tOp (rNeE K) (tVar i) (tLst tNil)) s' H' R' := by
  rintro s' H' R R' hR ⟨v, hv, hlen, hk⟩
  refine ⟨v, hv, hlen, fun p hp => ?_⟩
  obtain ⟨a, b, xs, e1, e2, s1, s2, kk, e3, r⟩ := hk p hp
  exact ⟨a, b, xs, e1, e2, s1, s2, kk, e3, hR _ _ r⟩
theorem scan_one {b : M} {met : List Key} {behind cs : List (List Nat)} {c : List Nat} : scan b met behind (c :: cs) = if (b.run c).strayed = true then (some c, met, behind) else if (b.run c).key ∈ met then scan b met behind cs else scan b (met ++ [(b.run c).key]) (behind ++ [c]) cs := by
  rw [scan]
theorem pure_stale {Z : Cs} (k : ZOk Z) {P : Program} {w : World} (vs : List V) (H : Hp) (Q : VK) (E : XK) (h : sp_stale Z vs H Q E) : t_stale Z P w { nx := fun _ H' => Q .non H', rt := Q } (start ["values", "programs", "rule", "first", "met", "level", "behind", "weaving", "machine", "hand", "other"] vs) H := by
  obtain ⟨lv, lp, lr, values, ps, r, rfl, hv, hp, hr, ok, hB, q⟩ := h
  have fb := Fine.begin_ ok
  have F := bfs_spec fb rfl (lev0 (ps := ps) (b := M.begin_ values ps r) [(M.begin_ values ps r).key] (fun k hk => List.mem_singleton.mp hk)) (k := 1001) (by omega)
  generalize hR : bfs ps.length (M.begin_ values ps r) 1001 [(M.begin_ values ps r).key] [[]] = R at F
  obtain ⟨pus, hpl, hpu⟩ := id hp
  unfold t_stale
  walk_at "q"
  refine s_asg_of (s_machine (ea_cons (ev_var rfl) (ea_cons (ev_var rfl) (ea_cons (ev_var rfl) ea_nil))) hv hp hr ok fun A H1 c1 own T => ?_)
  show ({ nx := _, rt := Q : Ends }).nx _ _
  walk_at "q"
  refine s_asg_of ?_
  intro dm hdm
  have k2 : Same H1 (upd H1 dm (ndO P w dm [])) := Same.new hdm
  have g2 : (upd H1 dm (ndO P w dm [])) dm = some (ndO P w dm []) := upd_same
  generalize upd H1 dm (ndO P w dm []) = H2 at k2 g2 ⊢
  have T2 := T.same k2
  have hm : (M.begin_ values ps r).hands.length ≤ 1000 := by rw [fb.hn]; have := fb.plen; omega
  refine s_meth (ev_var (v := .ref A.p) rfl) T2.obj (mf_no _ _ _ (by simp)) ea_nil ⟨A, _, rfl, T2, hm, fun q0 H3 k3 nk3 => ev_c _ ?_⟩
  refine ⟨q0, nk _, .bl true, rfl, nk3, depth_nk _, k3 _ _ g2, fun xs nd4 => ?_⟩
  have g3 := k3 _ _ g2
  have T3 := T2.same k3
  have T4 : MachAt Z (upd H3 dm (ndO P w dm xs)) A (M.begin_ values ps r) := T3.nd g3
  have fdm : H dm = none := free_of c1 hdm
  have k4 : Same H (upd H3 dm (ndO P w dm xs)) := same_newer (Same.trans (Same.trans c1 k2) k3) fdm
  generalize upd H3 dm (ndO P w dm xs) = H4 at nd4 T4 k4 ⊢
  clear T T2 T3 c1 k2 k3 g2 g3 nk3 own
  show ({ nx := _, rt := Q : Ends }).nx _ _
  walk_at "q"
  refine s_asg_of (t_lst_of (t_cons_of (t_tup_of (t_cons_of (e_tup ea_nil (by show 0 ≤ 1000; decide) fun t0 ht0 => t_cons_of (ev_var (v := .ref A.p) rfl _ ⟨by show 2 ≤ sizeLine; decide, fun q1 hq1 => ⟨by show 1 ≤ sizeLine; decide, fun L hL => ?_⟩⟩))))))
  have k5 : Same H4 (upd H4 t0 (.tup [])) := Same.new ht0
  have g5 : (upd H4 t0 (.tup [])) t0 = some (.tup []) := upd_same
  generalize upd H4 t0 (.tup []) = H5 at k5 g5 hq1 hL ⊢
  have k6 : Same H5 (upd H5 q1 (.tup [.ref t0, .ref A.p])) := Same.new hq1
  have g6 : (upd H5 q1 (.tup [.ref t0, .ref A.p])) q1 = some (.tup [.ref t0, .ref A.p]) := upd_same
  generalize upd H5 q1 (.tup [.ref t0, .ref A.p]) = H6 at k6 g6 hL ⊢
  have k7 : Same H6 (upd H6 L (.lst [.ref q1])) := Same.new hL
  have g7 : (upd H6 L (.lst [.ref q1])) L = some (.lst [.ref q1]) := upd_same
  have T6 := (T4.same k5).same k6
  have own6 : ∀ a, A.owns a → a ≠ L := fun a ho => T6.own_ne ho hL
  generalize upd H6 L (.lst [.ref q1]) = H7 at k7 g7 ⊢
  have k47 := Same.trans (Same.trans k5 k6) k7
  have T7 := T6.same k7
  show ({ nx := _, rt := Q : Ends }).nx _ _
  walk_at "q"
  have nd7 : NdAt P w H7 dm ([(M.begin_ values ps r).key].map nk) := nd4.mono (fun o e => k47 _ _ e) fun b ys e => k47 _ _ e
  have ent7 : EntAt Z (M.begin_ values ps r) L H7 (.ref q1) [] := ⟨q1, t0, A, rfl, k7 _ _ g6, k7 _ _ (k6 _ _ g5), T7, own6⟩
  have mok : MetOk values ps r [(M.begin_ values ps r).key] := ⟨by simp, fun k hk => by rw [List.mem_singleton.mp hk]; exact (live_reach (w := []) ok trivial).1⟩
  refine s_whileN (fun n s' H' => ∃ (level : List (List Nat)) (met : List Key) (L D0 : Addr) (us : List V) (x6 x7 x8 x9 x10 : Option V) (Lv : Nat), s' = [some (.ref lv), some (.ref lp), some (.ref lr), some (.ref A.p), some (.ref dm), some (.ref L), x6, x7, x8, x9, x10] ∧
    Same H H' ∧ NdAt P w H' dm (met.map nk) ∧ H' L = some (.lst us) ∧ All2 (EntAt Z (M.begin_ values ps r) D0 H') us level ∧ MetOk values ps r met ∧ (∀ c ∈ level, SS.live ps.length (M.begin_ values ps r) c ∧ c.length = Lv) ∧ 1000 < n + Lv ∧ bfs ps.length (M.begin_ values ps r) n met level = R)
    ⟨1001, [[]], _, L, L, _, none, none, none, none, none, 0, rfl, Same.trans k4 k47, nd7, g7, .cons ent7 .nil, mok, fun c hc => by rw [List.mem_singleton.mp hc]; exact ⟨trivial, rfl⟩, by omega, hR⟩ (fun n s' H' p => ?_) ne_mono
  clear nd7 ent7 mok nd4 T4 T6 T7 k47 k5 k6 k7 g5 g6 g7 own6 hL hq1 ht0 k4
  obtain ⟨level, met, L, D0, us, x6, x7, x8, x9, x10, Lv, rfl, sH, nd, hL, hE, mok, hlv, hn, hb⟩ := p
  have ul := hE.length
  refine t_test_of (t_op_of (ev_var (v := .ref L) rfl _ (e_lst ea_nil (by show 0 ≤ 1000; decide) fun l hl => ⟨L, l, us, rfl, rfl, SqL.of (Same.new hl _ _ hL), SqL.of upd_same, ⟨_, rfl, ?_⟩⟩)))
  have kl : Same H' (upd H' l (.lst [])) := Same.new hl
  generalize upd H' l (.lst []) = H1 at kl ⊢
  have sH1 := Same.trans sH kl
  cases hus : us with
  | nil =>
    rw [hus] at ul
    have hlev : level = [] := List.length_eq_zero_iff.mp ul.symm
    refine iteF ?_
    have : R = none := by
      rw [← hb, hlev]
      cases n with
      | zero => rfl
      | succ n => rw [bfs, if_pos rfl]
    rw [this] at F
    show ({ nx := _, rt := Q : Ends }).nx _ _
    dsimp only
    exact s_ret ev_c (q none .non H1 sH1 F rfl)
  | cons u0 us0 =>
    refine iteT ?_
    have hne : level ≠ [] := fun z => by
      rw [hus, z] at ul
      cases ul
    obtain ⟨c0, hc0⟩ : ∃ c, c ∈ level := by
      cases hh : level with
      | nil => exact absurd hh hne
      | cons c _ => exact ⟨c, List.mem_cons_self⟩
    cases n with
    | zero =>
      have h1 := live_mu (hlv c0 hc0).1 fb
      have h2 := fb.mu_le
      have h3 := (hlv c0 hc0).2
      omega
    | succ n =>
      rw [bfs, if_neg hne] at hb
      generalize hS : scan (M.begin_ values ps r) met [] (cands ps.length (M.begin_ values ps r) level) = S at hb
      walk_at "q"
      refine s_asg_of (e_lst ea_nil (by show 0 ≤ 1000; decide) fun D hD => ?_)
      have kD : Same H1 (upd H1 D (.lst [])) := Same.new hD
      have gD : (upd H1 D (.lst [])) D = some (.lst []) := upd_same
      have fD := free_of sH1 hD
      have hL1 := kl _ _ hL
      have nLD : L ≠ D := ne_of_none hL1 hD
      have hE1 : All2 (EntAt Z (M.begin_ values ps r) D H1) us level := (hE.mono fun _ _ => EntAt.same kl).mono fun _ _ => EntAt.anew hD
      generalize upd H1 D (.lst []) = H2 at kD gD ⊢
      have I2 : Bf Z P w values ps r H dm L D us level met [] H2 := ⟨Same.trans sH1 kD, fdm, fD, (nd.mono (fun o e => kl _ _ e) fun b ys e => kl _ _ e).mono (fun o e => kD _ _ e) fun b ys e => kD _ _ e, kD _ _ hL1, hE1.mono fun _ _ => EntAt.same kD, ⟨[], gD, .nil⟩, nLD, mok, Nat.zero_le _, fun _ z => nomatch z⟩
      clear kD gD hE1 hL1 nd hE hL mok sH1 kl hl hD
      show ({ nx := _, rt := Q, bk := _, ct := _ : Ends }).nx _ _
      walk_at "q"
      refine s_forL (xs := us) (ev_var rfl) (SqL.of I2.lv) (fun i s' H' => ∃ (met' : List Key) (behind : List (List Nat)) (x7 x8 x9 x10 : Option V), s' = [some (.ref lv), some (.ref lp), some (.ref lr), some (.ref A.p), some (.ref dm), some (.ref L), some (.ref D), x7, x8, x9, x10] ∧
        Bf Z P w values ps r H dm L D us level met' behind H' ∧ (∀ c ∈ behind, c.length = Lv + 1) ∧ scan (M.begin_ values ps r) met' behind (cands ps.length (M.begin_ values ps r) (level.drop i)) = S)
        ⟨met, [], x7, x8, x9, x10, rfl, I2, fun _ z => (nomatch z), hS⟩ (fun i s' H' _ p => ?_) (fun i x s' H' hx p => ?_) (fun s' H' p => ?_)
      · obtain ⟨_, _, _, _, _, _, _, I, _⟩ := p
        exact SqL.of I.lv
      · obtain ⟨met', behind, y7, y8, y9, y10, rfl, I, bl, hsc⟩ := p
        have hi : i < level.length := by rw [← ul]; exact (List.getElem?_eq_some_iff.mp hx).1
        have hlu : level[i]? = some level[i] := List.getElem?_eq_getElem hi
        generalize level[i] = u at hlu
        obtain ⟨lu, ulen⟩ := hlv u (List.mem_of_getElem? hlu)
        obtain ⟨v, hv1, q1, t, B, rfl, hq1, ht1, T1, own1⟩ := I.le2.get i hlu
        rw [hx] at hv1
        cases hv1
        rw [cands_drop hlu] at hsc
        refine ⟨q1, [.ref t, .ref B.p], rfl, SqT.of hq1, rfl, _, _, rfl, _, _, rfl, rfl, ?_⟩
        refine s_forR (n := ps.length) (ev_is (ev_lenL (ev_var rfl) (Same.seq I.same hpl)) (by rw [hpu.length])) (by have := fb.plen; omega) (fun h s' H' => ∃ (met' : List Key) (behind : List (List Nat)) (y9 y10 : Option V), s' = [some (.ref lv), some (.ref lp), some (.ref lr), some (.ref A.p), some (.ref dm), some (.ref L), some (.ref D), some (.ref t), some (.ref B.p), y9, y10] ∧
          Bf Z P w values ps r H dm L D us level met' behind H' ∧ H' q1 = some (.tup [.ref t, .ref B.p]) ∧ (∀ c ∈ behind, c.length = Lv + 1) ∧ scan (M.begin_ values ps r) met' behind (restOf ps.length (M.begin_ values ps r) u h ++ cands ps.length (M.begin_ values ps r) (level.drop (i + 1))) = S)
          ⟨met', behind, y9, y10, rfl, I, hq1, bl, hsc⟩ (fun h s' H'' hh p => ?_) (fun s' H'' p => ?_)
        · obtain ⟨met2, behind2, z9, z10, rfl, J, hq2, bl2, hsc2⟩ := p
          rw [restOf_step hh] at hsc2
          show t_try9 Z P w _ [some (V.ref lv), some (V.ref lp), some (V.ref lr), some (V.ref A.p), some (V.ref dm), some (V.ref L), some (V.ref D), some (V.ref t), some (V.ref B.p), some (V.int h), z10] H''
          refine try9 ok hB J hx hlu hq2 lu hh (fun hr => ?_) (fun hr st l Hx c hl e => ?_) (fun hr st km y2 H3 J3 hq3 => ?_) (fun hr st km y2 H3 J3 hq3 => ?_)
          · rw [if_pos hr] at hsc2
            exact ⟨met2, behind2, _, _, rfl, J, hq2, bl2, hsc2⟩
          · rw [if_neg (by rw [hr]; decide), List.cons_append, scan_one, if_pos st] at hsc2
            rw [← hsc2] at hb
            rw [← hb] at F
            exact q _ _ Hx c F ⟨l, rfl, hl, e⟩
          · rw [if_neg (by rw [hr]; decide), List.cons_append, scan_one, if_neg (by rw [st]; decide), if_pos km] at hsc2
            exact ⟨met2, behind2, _, _, rfl, J3, hq3, bl2, hsc2⟩
          · rw [if_neg (by rw [hr]; decide), List.cons_append, scan_one, if_neg (by rw [st]; decide), if_neg km] at hsc2
            refine ⟨_, _, _, _, rfl, J3, hq3, fun c hc => ?_, hsc2⟩
            rcases List.mem_append.mp hc with z | z
            · exact bl2 c z
            · rw [List.mem_singleton.mp z, List.length_append, ulen]
              rfl
        · obtain ⟨met2, behind2, z9, z10, rfl, J, hq2, bl2, hsc2⟩ := p
          rw [restOf_end, List.nil_append] at hsc2
          exact ⟨met2, behind2, _, _, z9, z10, rfl, J, bl2, hsc2⟩
      · obtain ⟨met', behind, y7, y8, y9, y10, rfl, I, bl, hsc⟩ := p
        rw [ul, List.drop_length] at hsc
        have e0 : cands ps.length (M.begin_ values ps r) [] = [] := rfl
        rw [e0, scan] at hsc
        rw [← hsc] at hb
        obtain ⟨vs2, h1, h2⟩ := I.bh
        refine s_asg (ev_var (v := .ref D) rfl) ?_
        exact ⟨n, Nat.lt_succ_self _, behind, met', D, D, vs2, _, _, _, _, _, Lv + 1, rfl, I.same, I.nd, h1, h2, I.ok, fun c hc => ⟨I.live c hc, bl c hc⟩, by omega, hb⟩
end SS

set_option linter.all false
set_option maxRecDepth 100000
/-! Few deeds have few states. -/
namespace SS
def patsTo : Nat → List (List Bool)
  | 0 => [[]]
  | n + 1 => [] :: (patsTo n).flatMap fun l => [true :: l, false :: l]
theorem pats_mem : ∀ (n : Nat) (l : List Bool), l.length ≤ n → l ∈ patsTo n
  | 0, [], _ => List.mem_singleton.mpr rfl
  | 0, _ :: _, h => by simp at h
  | n + 1, [], _ => List.mem_cons_self
  | n + 1, true :: l, h => List.mem_cons_of_mem _ (List.mem_flatMap.mpr ⟨l, pats_mem n l (by simpa using h), by simp⟩)
  | n + 1, false :: l, h => List.mem_cons_of_mem _ (List.mem_flatMap.mpr ⟨l, pats_mem n l (by simpa using h), by simp⟩)
def okTwo (n : Nat) (la lb : List (List Bool)) : Bool := la.all fun a => lb.all fun b => Nat.ble (cnt (6 + (a.length + b.length)) n [(a, false), (b, false)] 1 0) 16000000
theorem two_a : okTwo 1000 (patsTo 1) (patsTo 4) = true := by decide +kernel
theorem two_b : okTwo 1000 (patsTo 4) (patsTo 1) = true := by decide +kernel
theorem cap_two {a b : List Deed} (h : (a.length ≤ 1 ∧ b.length ≤ 4) ∨ (a.length ≤ 4 ∧ b.length ≤ 1)) : cnt (6 + total [a, b]) 1000 (kinds [a, b]) 1 0 ≤ capN := by
  have e1 : total [a, b] = (a.map isPush).length + (b.map isPush).length := by
    rw [List.length_map, List.length_map]
    show a.length + (b.length + 0) = _
    omega
  have e2 : kinds [a, b] = [(a.map isPush, false), (b.map isPush, false)] := rfl
  rw [e1, e2]
  rcases h with ⟨h1, h2⟩ | ⟨h1, h2⟩
  · have := List.all_eq_true.mp (List.all_eq_true.mp two_a _ (pats_mem 1 (a.map isPush) (by rw [List.length_map]; exact h1))) _ (pats_mem 4 (b.map isPush) (by rw [List.length_map]; exact h2))
    exact Nat.le_of_ble_eq_true this
  · have := List.all_eq_true.mp (List.all_eq_true.mp two_b _ (pats_mem 4 (a.map isPush) (by rw [List.length_map]; exact h1))) _ (pats_mem 1 (b.map isPush) (by rw [List.length_map]; exact h2))
    exact Nat.le_of_ble_eq_true this
end SS

set_option Elab.async false
set_option linter.all false
set_option maxRecDepth 100000
set_option maxHeartbeats 4000000
namespace SS
open PySem L2
local macro_rules | `(tactic| walk_at "q") => `(tactic| ((try dsimp only); refine s_seq ?_))

/-- the script, locked or the module's -/
def ScrAt (K : PySem.W.Frag) (H : Hp) (a : Addr) (xs : List V) : Prop := (∃ o, H a = some (.frz o (.lst xs))) ∨ ∃ (o : Obj) (its : Array Value) (n : Nat), K.lookup a = some o ∧ o.cls = .type "list" ∧ o.dict = none ∧ o.data = .seq its n ∧ its.size ≤ sizeLine ∧ Vals xs its.toList
theorem ScrAt.seq {K : PySem.W.Frag} {H : Hp} {a : Addr} {xs : List V} (h : ScrAt K H a xs) : SqL K H a xs := by
  rcases h with ⟨o, h⟩ | h
  · exact .inl (.inr ⟨o, h⟩)
  · exact .inr h
theorem ScrAt.chg {K : PySem.W.Frag} {F : Addr → Prop} {H H' : Hp} {a : Addr} {xs : List V} (h : ScrAt K H a xs) (c : Chg F H H') : ScrAt K H' a xs := by
  rcases h with ⟨o, h⟩ | h
  · exact .inl ⟨o, c.frz h⟩
  · exact .inr h
theorem ScrAt.of {K : PySem.W.Frag} {H : Hp} {a : Addr} {xs : List V} (hO : Only H) (h : SqL K H a xs) : ScrAt K H a xs := by
  rcases h with (h | ⟨o, h⟩) | h
  · rcases hO a with z | ⟨o, ys, z⟩ <;> rw [h] at z <;> cases z
  · exact .inl ⟨o, h⟩
  · exact .inr h
/-! ### the dice: a list of four; what is drawn is any number in its bounds -/
def DiceAt (K : PySem.W.Frag) (H : Hp) (d : Addr) : Prop := ∃ (sc : Addr) (ns : List Int) (a b c : Int), H d = some (.lst [.ref sc, .int a, .int b, .int c]) ∧ ScrAt K H sc (ns.map V.int) ∧ 0 ≤ a
abbrev Dc (d : Addr) : Addr → Prop := fun a => a = d
/-- programs in lists -/
def PgAt (H : Hp) (l : Addr) (ps : List (List Deed)) : Prop := ∃ us, H l = some (.lst us) ∧ All2 (ProgAt H) us ps
def sp_L_dice (Z : Cs) : Sp := fun vs H Q _ => ∃ (sc : Addr) (ns : List Int), vs = [.ref sc] ∧ ScrAt Z.K H sc (ns.map V.int) ∧ ∀ d H', H d = none → Same H H' → DiceAt Z.K H' d → Q (.ref d) H'
def sp_L_next (Z : Cs) : Sp := fun vs H Q _ => ∃ (d : Addr) (m : Nat), vs = [.ref d, .int m] ∧ DiceAt Z.K H d ∧ 0 < m ∧ m < 1073741824 ∧ ∀ (r : Nat) H', r < m → Chg (Dc d) H H' → DiceAt Z.K H' d → Q (.int r) H'
def sp_L_values (Z : Cs) : Sp := fun vs H Q _ => ∃ (d : Addr) (m : Nat), vs = [.ref d, .int m] ∧ DiceAt Z.K H d ∧ m ≤ 1000 ∧
  ∀ l (ns : List Int) H', H l = none → Chg (Dc d) H H' → DiceAt Z.K H' d → H' l = some (.lst (ns.map V.int)) → ns.length ≤ m → (∀ v ∈ ns, okVal v) → Q (.ref l) H'
def sp_L_deed (Z : Cs) : Sp := fun vs H Q _ => ∃ (d : Addr), vs = [.ref d] ∧ DiceAt Z.K H d ∧ ∀ v (e : Deed) H', Chg (Dc d) H H' → DiceAt Z.K H' d → DeedAt H' v e → okDeed e → Q v H'
def sp_L_programs (Z : Cs) : Sp := fun vs H Q _ => ∃ (d : Addr) (hn dn : Nat), vs = [.ref d, .int hn, .int dn] ∧ DiceAt Z.K H d ∧ 1 ≤ hn ∧ hn ≤ 3 ∧ dn ≤ 4 ∧
  ∀ l ps H', H l = none → Chg (Dc d) H H' → DiceAt Z.K H' d → PgAt H' l ps → 1 ≤ ps.length → ps.length ≤ hn → (∀ p ∈ ps, p.length ≤ 4) → (∀ p ∈ ps, ∀ e ∈ p, okDeed e) → Q (.ref l) H'
def sp_L_rule (Z : Cs) : Sp := fun vs H Q _ => ∃ (d : Addr) (many : Nat), vs = [.ref d, .int many] ∧ DiceAt Z.K H d ∧ many ≤ 1000 ∧ ∀ a r H', Chg (Dc d) H H' → DiceAt Z.K H' d → RuleAt H' a r → okRule many r → Q (.ref a) H'
def sp_L_weaving (Z : Cs) : Sp := fun vs H Q _ => ∃ (d : Addr) (many most : Nat), vs = [.ref d, .int many, .int most] ∧ DiceAt Z.K H d ∧ 1 ≤ many ∧ many ≤ 1000 ∧ 1 ≤ most ∧ most ≤ 1000 ∧
  ∀ l (w : List Nat) H', H l = none → Chg (Dc d) H H' → DiceAt Z.K H' d → H' l = some (.lst (w.map natV)) → (∀ h ∈ w, h < many) → w.length ≤ 5 * most → Q (.ref l) H'

/-! ### readings (printed) -/
/-- _law_dice: 0 _law_script, 1 _law_mixed, 2 _law_cell_here -/
def t_L_dice (Z : Cs) : TS :=
  tSeq (tAsg (tC (.int 0)) (gName 1))
    (tSeq (tFor (iList Z.K (tVar 0)) (gName 2) ((tAsg (tOp rModI (tOp rAddI (tOp rAddI (tOp rMulI (tVar 1) (tC (.int 48271))) (tOp rMulI (tOp rModI (tVar 2) (tC (.int 2147483647))) (tC (.int 69621)))) (tC (.int 11))) (tC (.int 2147483647))) (gName 1))))
    ((tRet (tLst (tCons (tVar 0) (tCons (tC (.int 0)) (tCons (tOp rMulI (tVar 1) (tCB rInt1 (tCons (tOp rGtI (tCB (rLen1 Z.K) (tCons (tVar 0) tNil)) (tC (.int 2))) tNil))) (tCons (tC (.int 0)) tNil))))))))
/-- _law_next: 0 _law_dice_here, 1 _law_many, 2 _law_found, 3 _law_cell_here -/
def t_L_next (Z : Cs) : TS :=
  tSeq (tIfS (tTest (tOp rGtI (tOp (rIxL Z.K) (tVar 0) (tC (.int 3))) (tC (.int 0)))) (tSeq (tAsg (tOp rModI (tOp (rIxL Z.K) (tVar 0) (tC (.int 3))) (tVar 1)) (gName 2))
    (tSeq (tAsg (tOp rFdivI (tOp (rIxL Z.K) (tVar 0) (tC (.int 3))) (tVar 1)) (gSub (tVar 0) (tC (.int 3)) rSetL))
    ((tRet (tVar 2))))) (tNext))
    (tSeq (tAsg (tOp rAddI (tOp (rIxL Z.K) (tVar 0) (tC (.int 1))) (tC (.int 1))) (gSub (tVar 0) (tC (.int 1)) rSetL))
    (tSeq (tIfS (tTest (tOp rLeI (tOp (rIxL Z.K) (tVar 0) (tC (.int 1))) (tCB (rLen1 Z.K) (tCons (tOp (rIxL Z.K) (tVar 0) (tC (.int 0))) tNil)))) (tSeq (tAsg (tOp (rIxL Z.K) (tOp (rIxL Z.K) (tVar 0) (tC (.int 0))) (tOp rSubI (tOp (rIxL Z.K) (tVar 0) (tC (.int 1))) (tC (.int 1)))) (gName 3))
    (tSeq (tAsg (tIf (tTest (tOp rGeI (tVar 3) (tOp rPowI (tC (.int 10)) (tC (.int 18))))) (tOp rFdivI (tVar 3) (tVar 1)) (tC (.int 0))) (gSub (tVar 0) (tC (.int 3)) rSetL))
    ((tRet (tOp rModI (tVar 3) (tVar 1)))))) (tNext))
    (tSeq (tAsg (tOp rModI (tOp rMulI (tOp (rIxL Z.K) (tVar 0) (tC (.int 2))) (tC (.int 48271))) (tC (.int 2147483647))) (gSub (tVar 0) (tC (.int 2)) rSetL))
    ((tRet (tOp rModI (tOp rFdivI (tOp (rIxL Z.K) (tVar 0) (tC (.int 2))) (tC (.int 7))) (tVar 1)))))))
/-- _law_values: 0 _law_d, 1 _law_most, 2 _law_k -/
def t_L_values (Z : Cs) : TS :=
  (tRet (tLc (iRng1 (tCons (tCall (sp_L_next Z) [] E0 (tCons (tVar 0) (tCons (tOp rAddI (tVar 1) (tC (.int 1))) tNil))) tNil)) (gName 2) tYes (tCall (sp_L_next Z) [] E0 (tCons (tVar 0) (tCons (tC (.int 100)) tNil))) [2]))
/-- _law_deed: 0 _law_d -/
def t_L_deed (Z : Cs) : TS :=
  tSeq (tIfS (tTest (tOp rEq (tCall (sp_L_next Z) [] E0 (tCons (tVar 0) (tCons (tC (.int 3)) tNil))) (tC (.int 1)))) ((tRet (tTup (tCons (tC (.str "push")) (tCons (tCall (sp_L_next Z) [] E0 (tCons (tVar 0) (tCons (tC (.int 100)) tNil))) tNil))))) (tNext))
    ((tRet (tTup (tCons (tC (.str "pop")) tNil))))
/-- _law_programs: 0 _law_d, 1 _law_hands, 2 _law_deeds, 3 _law_rows, 4 _law_k, 5 _law_hand -/
def t_L_programs (Z : Cs) : TS :=
  tSeq (tIfS ((tAnd (tTest (tOp rGtI (tVar 1) (tC (.int 1)))) (tTest (tOp rEq (tCall (sp_L_next Z) [] E0 (tCons (tVar 0) (tCons (tC (.int 3)) tNil))) (tC (.int 2)))))) (tSeq (tAsg (tLst (tCons (tLst (tCons (tTup (tCons (tC (.str "pop")) tNil)) tNil)) (tCons (tLst (tCons (tTup (tCons (tC (.str "pop")) tNil)) (tCons (tTup (tCons (tC (.str "pop")) tNil)) (tCons (tTup (tCons (tC (.str "push")) (tCons (tCall (sp_L_next Z) [] E0 (tCons (tVar 0) (tCons (tC (.int 100)) tNil))) tNil))) tNil)))) tNil))) (gName 3))
    (tSeq (tDrop (tBM Z.K "list" rInsert (tOp (rIxL Z.K) (tVar 3) (tCall (sp_L_next Z) [] E0 (tCons (tVar 0) (tCons (tC (.int 2)) tNil)))) (tCons (tC (.int 0)) (tCons (tCall (sp_L_deed Z) [] E0 (tCons (tVar 0) tNil)) tNil))))
    ((tRet (tStepL Z.K (tVar 3) (tOp (rIxL Z.K) (tLst (tCons (tC (.int 1)) (tCons (tUn rNegI (tC (.int 1))) tNil))) (tCall (sp_L_next Z) [] E0 (tCons (tVar 0) (tCons (tC (.int 2)) tNil))))))))) (tNext))
    ((tRet (tLc (iRng1 (tCons (tOp rAddI (tC (.int 1)) (tCall (sp_L_next Z) [] E0 (tCons (tVar 0) (tCons (tVar 1) tNil)))) tNil)) (gName 5) tYes (tLc (iRng1 (tCons (tCall (sp_L_next Z) [] E0 (tCons (tVar 0) (tCons (tOp rAddI (tVar 2) (tC (.int 1))) tNil))) tNil)) (gName 4) tYes (tCall (sp_L_deed Z) [] E0 (tCons (tVar 0) tNil)) [4]) [5])))
/-- _law_rule: 0 _law_d, 1 _law_many, 2 _law_kind, 3 _law_hand -/
def t_L_rule (Z : Cs) : TS :=
  tSeq (tAsg (tCall (sp_L_next Z) [] E0 (tCons (tVar 0) (tCons (tC (.int 4)) tNil))) (gName 2))
    (tSeq (tIfS (tTest (tOp rLtI (tVar 2) (tC (.int 2)))) ((tRet (tTup (tCons (tC (.str "counts")) (tCons (tOp rAddI (tC (.int 1)) (tCall (sp_L_next Z) [] E0 (tCons (tVar 0) (tCons (tOp (rIxL Z.K) (tLst (tCons (tC (.int 3)) (tCons (tC (.int 15)) tNil))) (tCall (sp_L_next Z) [] E0 (tCons (tVar 0) (tCons (tC (.int 2)) tNil)))) tNil)))) tNil))))) (tNext))
    (tSeq (tIfS (tTest (tOp rEq (tVar 2) (tC (.int 2)))) ((tRet (tTup (tCons (tC (.str "marks")) (tCons (tCB (rTupleOf Z.K) (tCons (tLc (iRng1 (tCons (tVar 1) tNil)) (gName 3) (tTest (tOp rEq (tCall (sp_L_next Z) [] E0 (tCons (tVar 0) (tCons (tC (.int 2)) tNil))) (tC (.int 1)))) (tVar 3) [3]) tNil)) tNil))))) (tNext))
    ((tRet (tTup (tCons (tC (.str "keeps")) tNil))))))
/-- _law_weaving: 0 _law_d, 1 _law_many, 2 _law_most, 3 _law_weaving_here, 4 _law_k -/
def t_L_weaving (Z : Cs) : TS :=
  tSeq (tAsg (tLst tNil) (gName 3))
    (tSeq (tFor (iRng1 (tCons (tCall (sp_L_next Z) [] E0 (tCons (tVar 0) (tCons (tVar 2) tNil))) tNil)) (gName 4) ((tAsg (tOp rCat (tVar 3) (tOp rRep (tLst (tCons (tCall (sp_L_next Z) [] E0 (tCons (tVar 0) (tCons (tVar 1) tNil))) tNil)) (tOp rAddI (tC (.int 1)) (tCall (sp_L_next Z) [] E0 (tCons (tVar 0) (tCons (tC (.int 5)) tNil)))))) (gName 3))))
    ((tRet (tVar 3))))
end SS

set_option Elab.async false
set_option linter.all false
set_option maxRecDepth 100000
set_option maxHeartbeats 4000000
namespace SS
open PySem L2
local macro_rules | `(tactic| walk_at "q") => `(tactic| ((try dsimp only); refine s_seq ?_))

theorem DiceAt.ne {K : PySem.W.Frag} {H : Hp} {d D : Addr} (x : DiceAt K H d) (h : H D = none) : D ≠ d := by
  obtain ⟨sc, ns, a, b, c, h1, _⟩ := x
  exact fun e => by rw [e, h1] at h; cases h
theorem Chg.ne {d : Addr} {H H' : Hp} (c : Chg (Dc d) H H') {b : Addr} {o : HO} (h : H b = some o) (n : b ≠ d) : H' b = some o := c.keep b o h n
theorem Chg.free {d : Addr} {H H' : Hp} {K : PySem.W.Frag} (c : Chg (Dc d) H H') (x : DiceAt K H' d) {b : Addr} (h : H' b = none) : H b = none := by
  cases z : H b with
  | none => rfl
  | some o =>
    have := c.keep b o z (x.ne h)
    rw [h] at this
    cases this
theorem DiceAt.chg {K : PySem.W.Frag} {F : Addr → Prop} {H H' : Hp} {d : Addr} (x : DiceAt K H d) (c : Chg F H H') (n : ¬ F d) : DiceAt K H' d := by
  obtain ⟨sc, ns, a, b, e, h1, h2, h3⟩ := x
  exact ⟨sc, ns, a, b, e, c.keep _ _ h1 n, h2.chg c, h3⟩
theorem DiceAt.same {K : PySem.W.Frag} {H H' : Hp} {d : Addr} (x : DiceAt K H d) (c : Same H H') : DiceAt K H' d := x.chg (F := fun _ => False) (Chg.same c) fun z => z
theorem chg_put {H : Hp} {d : Addr} {xs : List V} {o : HO} (h : H d = some (.lst xs)) : Chg (Dc d) H (upd H d o) := Chg.put rfl fun u e => by rw [h] at e; cases e; exact fun z => z
theorem DiceAt.put {K : PySem.W.Frag} {H : Hp} {d : Addr} {sc : Addr} {ns : List Int} {a b c : Int} {xs : List V} (h2 : ScrAt K H sc (ns.map V.int)) (hd : H d = some (.lst xs)) (h3 : 0 ≤ a) : DiceAt K (upd H d (.lst [.ref sc, .int a, .int b, .int c])) d :=
  ⟨sc, ns, a, b, c, upd_same, h2.chg (chg_put hd), h3⟩
theorem lcm_ {a : Int} : CMul a 48271 := .inr ⟨by decide, by decide⟩
theorem pure_L_dice {Z : Cs} (vs : List V) (H : Hp) (Q : VK) (E : XK) (h : sp_L_dice Z vs H Q E) : t_L_dice Z { nx := fun _ H' => Q .non H', rt := Q } (start ["_law_script", "_law_mixed", "_law_cell_here"] vs) H := by
  obtain ⟨sc, ns, rfl, S, q⟩ := h
  have L := S.seq
  unfold t_L_dice
  walk_at "q"
  refine s_asg ev_c ?_
  walk_at "q"
  refine s_forL (ev_var rfl) L (fun i s' H' => H' = H ∧ ∃ (x : Int) (w : Option V), s' = [some (.ref sc), some (.int x), w]) ⟨rfl, 0, none, rfl⟩ (fun i s' H' _ p => by rw [p.1]; exact L) ?_ ?_
  · rintro i y s' H' hy ⟨rfl, x, w, rfl⟩
    obtain ⟨n, hn, rfl⟩ := map_get hy
    refine s_asg (ev_mod (ev_add (ev_add (ev_mul (ev_var rfl) ev_c (.inr ⟨by decide, by decide⟩)) (ev_mul (ev_mod (ev_var rfl) ev_c (by decide)) ev_c (.inr ⟨by decide, by decide⟩))) ev_c) ev_c (by decide)) ⟨rfl, _, _, rfl⟩
  · rintro s' H' ⟨rfl, x, w, rfl⟩
    dsimp only
    refine e_lst (ea_cons (ev_var rfl) (ea_cons ev_c (ea_cons (ev_mul (ev_var rfl) (ev_int1 (ev_gt (ev_lenL (ev_var rfl) L) ev_c)) (.inr ?_)) (ea_cons ev_c ea_nil)))) (by show 4 ≤ 1000; decide) fun d hd => ?_
    · split <;> decide
    · refine q d _ hd (Same.new hd) ⟨sc, ns, 0, _, 0, upd_same, S.chg (F := fun _ => False) (Chg.same (Same.new hd)), Int.le_refl _⟩
theorem ev_d {K : PySem.W.Frag} {H : Hp} {s : L2.St} {n : Nat} {d : Addr} {xs : List V} {j : Nat} {v : V} (h : s[n]? = some (some (.ref d))) (hd : H d = some (.lst xs)) (hv : xs[j]? = some v) : Ev (tOp (rIxL K) (tVar n) (tC (.int j))) s H v :=
  ev_ixL (ev_var h) ev_c (SqL.of hd) (atI_nat hv)
theorem cdiv {i : Int} {m : Nat} (h1 : 0 < m) (h2 : m < 1073741824) : CDiv i m := ⟨by omega, by omega⟩
theorem modN {i : Int} {m : Nat} (h : 0 < m) : ∃ r : Nat, i % (m : Int) = r ∧ r < m := by
  have h1 := Int.emod_nonneg i (show (m : Int) ≠ 0 by omega)
  have h2 := Int.emod_lt_of_pos i (show (0 : Int) < m by omega)
  exact ⟨(i % (m : Int)).toNat, by omega, by omega⟩
theorem pure_L_next {Z : Cs} (vs : List V) (H : Hp) (Q : VK) (E : XK) (h : sp_L_next Z vs H Q E) : t_L_next Z { nx := fun _ H' => Q .non H', rt := Q } (start ["_law_dice_here", "_law_many", "_law_found", "_law_cell_here"] vs) H := by
  obtain ⟨d, m, rfl, ⟨sc, ns, a, b, c, hd, hS, ha⟩, hm, hm2, q⟩ := h
  unfold t_L_next
  have e1 : ∀ {s : L2.St} {H : Hp}, s[0]? = some (some (.ref d)) → ∀ {a b c : Int}, H d = some (.lst [.ref sc, .int a, .int b, .int c]) → Ev (tOp (rIxL Z.K) (tVar 0) (tC (.int 1))) s H (.int a) := fun h _ _ _ hd => ev_d (j := 1) h hd rfl
  have e2 : ∀ {s : L2.St} {H : Hp}, s[0]? = some (some (.ref d)) → ∀ {a b c : Int}, H d = some (.lst [.ref sc, .int a, .int b, .int c]) → Ev (tOp (rIxL Z.K) (tVar 0) (tC (.int 2))) s H (.int b) := fun h _ _ _ hd => ev_d (j := 2) h hd rfl
  have e3 : ∀ {s : L2.St} {H : Hp}, s[0]? = some (some (.ref d)) → ∀ {a b c : Int}, H d = some (.lst [.ref sc, .int a, .int b, .int c]) → Ev (tOp (rIxL Z.K) (tVar 0) (tC (.int 3))) s H (.int c) := fun h _ _ _ hd => ev_d (j := 3) h hd rfl
  walk_at "q"
  refine s_if (et_test (ev_gt (e3 rfl hd) ev_c)) (fun e => ?_) (fun e => ?_)
  · walk_at "q"
    refine s_asg (ev_mod (e3 rfl hd) (ev_var rfl) (by omega)) ?_
    walk_at "q"
    refine s_setL (i := 3) (j := 3) (ev_fdiv (e3 rfl hd) (ev_var rfl) (cdiv hm hm2)) (ev_var rfl) ev_c hd rfl ?_
    obtain ⟨r, er, hr⟩ := modN (i := c) hm
    dsimp only
    exact s_ret (ev_is (ev_var rfl) (by rw [er])) (q r _ hr (chg_put hd) (.put hS hd ha))
  · dsimp only [tNext]
    walk_at "q"
    refine s_setL (i := 1) (j := 1) (ev_add (e1 rfl hd) ev_c) (ev_var rfl) ev_c hd rfl ?_
    have hd1 : upd H d (.lst [.ref sc, .int (a + 1), .int b, .int c]) d = some (.lst [.ref sc, .int (a + 1), .int b, .int c]) := upd_same
    have hS1 : SqL Z.K (upd H d (.lst [.ref sc, .int (a + 1), .int b, .int c])) sc (ns.map V.int) := (hS.chg (chg_put hd)).seq
    have c1 : Chg (Dc d) H (upd H d (.lst [.ref sc, .int (a + 1), .int b, .int c])) := chg_put hd
    show ({ nx := _, rt := Q : Ends }).nx _ (upd H d (.lst [.ref sc, .int (a + 1), .int b, .int c]))
    walk_at "q"
    refine s_if (et_test (ev_le (e1 rfl hd1) (ev_lenL (ev_ixL (ev_var rfl) ev_c (SqL.of hd1) (atI_nat (j := 0) rfl)) hS1))) (fun e => ?_) (fun e => ?_)
    · have e' := of_decide_eq_true e
      rw [List.length_map] at e'
      obtain ⟨n, hn⟩ : ∃ n, ns[a.toNat]? = some n := ⟨_, List.getElem?_eq_getElem (by omega)⟩
      have hat : atI (ns.map V.int) (a + 1 - 1) = some (.int n) := by
        rw [show a + 1 - 1 = ((a.toNat : Nat) : Int) by omega]
        exact atI_nat (by rw [List.getElem?_map, hn] <;> rfl)
      walk_at "q"
      refine s_asg (ev_ixL (ev_ixL (ev_var rfl) ev_c (SqL.of hd1) (atI_nat (j := 0) rfl)) (ev_sub (e1 rfl hd1) ev_c) hS1 hat) ?_
      walk_at "q"
      have hv : ∃ z : Int, Ev (tIf (tTest (tOp rGeI (tVar 3) (tOp rPowI (tC (.int 10)) (tC (.int 18))))) (tOp rFdivI (tVar 3) (tVar 1)) (tC (.int 0))) ((start ["_law_dice_here", "_law_many", "_law_found", "_law_cell_here"] [.ref d, .int m]).set 3 (some (.int n))) (upd H d (.lst [.ref sc, .int (a + 1), .int b, .int c])) (.int z) := by
        refine ⟨if (10 : Int) ^ (18 : Int).toNat ≤ n then n / (m : Int) else 0, ?_⟩
        refine ev_if (et_test (ev_ge (ev_var rfl) (ev_pow ev_c ev_c ⟨by decide, by decide, by decide⟩))) (fun e => ?_) (fun e => ?_)
        · rw [if_pos (of_decide_eq_true e)]
          exact ev_fdiv (ev_var rfl) (ev_var rfl) (cdiv hm hm2)
        · rw [if_neg (of_decide_eq_false e)]
          exact ev_c
      obtain ⟨z, hz⟩ := hv
      refine s_setL (i := 3) (j := 3) hz (ev_var rfl) ev_c hd1 rfl ?_
      obtain ⟨r, er, hr⟩ := modN (i := n) hm
      rw [upd_upd]
      dsimp only
      exact s_ret (ev_is (ev_mod (ev_var rfl) (ev_var rfl) (by omega)) (by rw [er])) (q r _ hr (chg_put hd) (.put hS hd (by omega)))
    · dsimp only [tNext]
      walk_at "q"
      refine s_setL (i := 2) (j := 2) (ev_mod (ev_mul (e2 rfl hd1) ev_c (.inr ⟨by decide, by decide⟩)) ev_c (by decide)) (ev_var rfl) ev_c hd1 rfl ?_
      rw [upd_upd]
      have hd2 : upd H d (.lst [.ref sc, .int (a + 1), .int (b * 48271 % 2147483647), .int c]) d = some (.lst [.ref sc, .int (a + 1), .int (b * 48271 % 2147483647), .int c]) := upd_same
      show ({ nx := _, rt := Q : Ends }).nx _ (upd H d (.lst [.ref sc, .int (a + 1), .int (b * 48271 % 2147483647), .int c]))
      obtain ⟨r, er, hr⟩ := modN (i := b * 48271 % 2147483647 / 7) hm
      dsimp only
      exact s_ret (ev_is (ev_mod (ev_fdiv (e2 rfl hd2) ev_c ⟨by decide, by decide⟩) (ev_var rfl) (by omega)) (by rw [er])) (q r _ hr (chg_put hd) (.put hS hd (by omega)))
end SS

set_option Elab.async false
set_option linter.all false
set_option maxRecDepth 100000
set_option maxHeartbeats 4000000
namespace SS
open PySem L2
local macro_rules | `(tactic| walk_at "q") => `(tactic| ((try dsimp only); refine s_seq ?_))

/-- a draw -/
theorem s_next {Z : Cs} {H : Hp} {s : L2.St} {n d : Nat} {m : Nat} {tm : TE} {Q : VK} (h : s[n]? = some (some (.ref d))) (x : DiceAt Z.K H d) (hm : Ev tm s H (.int m)) (m1 : 0 < m) (m2 : m < 1073741824)
    (k : ∀ (r : Nat) H', r < m → Chg (Dc d) H H' → DiceAt Z.K H' d → Q (.int r) H') : tCall (sp_L_next Z) [] E0 (tCons (tVar n) (tCons tm tNil)) s H Q :=
  s_call (ea_cons (ev_var h) (ea_cons hm ea_nil)) ⟨d, m, rfl, x, m1, m2, k⟩
theorem ev_N {H : Hp} {s : L2.St} (k : Nat) {i : Int} (e : i = (k : Int)) : Ev (tC (.int i)) s H (.int (k : Int)) := by rw [e]; exact ev_c
theorem chg_new {H H' : Hp} {F : Addr → Prop} {p : Addr} {o : HO} (c : Chg F H H') (hp : H' p = none) : Chg F H (upd H' p o) := c.trans (Chg.same (Same.new hp))
/-- a list that is filled meanwhile -/
theorem chg_fill {H H' : Hp} {F : Addr → Prop} {D : Addr} {o : HO} (c : Chg F H H') (h : H D = none) : Chg F H (upd H' D o) :=
  ⟨fun b u e n => by rw [upd_ne (ne_of_none e h)]; exact c.keep b u e n, fun b u e s => by rw [upd_ne (ne_of_none e h)]; exact c.fix_ b u e s⟩
theorem DiceAt.fill {K : PySem.W.Frag} {H' : Hp} {d D : Addr} {xs : List V} {o : HO} (x : DiceAt K H' d) (hD : H' D = some (.lst xs)) (n : D ≠ d) : DiceAt K (upd H' D o) d := x.chg (chg_put hD) fun z => n z.symm
theorem Chg.free' {F : Addr → Prop} {H H' : Hp} (c : Chg F H H') {b : Addr} (n : ¬ F b) (h : H' b = none) : H b = none := by
  cases z : H b with
  | none => rfl
  | some o =>
    have := c.keep b o z n
    rw [h] at this
    cases this
theorem pure_L_deed {Z : Cs} (vs : List V) (H : Hp) (Q : VK) (E : XK) (h : sp_L_deed Z vs H Q E) : t_L_deed Z { nx := fun _ H' => Q .non H', rt := Q } (start ["_law_d"] vs) H := by
  obtain ⟨d, rfl, x, q⟩ := h
  unfold t_L_deed
  walk_at "q"
  refine s_if_of (t_test_of (t_op_of (s_next rfl x (ev_N 3 rfl) (by decide) (by decide) fun r H1 hr c1 x1 => ?_)))
  refine ⟨rfl, _, rfl, ?_⟩
  cases e : decide (V.int (r : Int) = V.int 1) with
  | true =>
    refine iteT (s_ret_of (t_tup_of (t_cons_of (ev_c _ (t_cons_of (s_next rfl x1 (ev_N 100 rfl) (by decide) (by decide) fun z H2 hz c2 x2 => ?_))))))
    exact ⟨by show 2 ≤ sizeLine; decide, fun p hp => q _ (.push z) _ (chg_new (c1.trans c2) hp) (x2.same (Same.new hp)) ⟨p, rfl, upd_same⟩ ⟨by omega, by omega⟩⟩
  | false =>
    refine iteF ?_
    dsimp only [tNext]
    exact e_tup (ea_cons ev_c ea_nil) (by show 1 ≤ 1000; decide) fun p hp => q _ .pop _ (chg_new c1 hp) (x1.same (Same.new hp)) ⟨p, rfl, upd_same⟩ trivial
theorem pure_L_values {Z : Cs} (vs : List V) (H : Hp) (Q : VK) (E : XK) (h : sp_L_values Z vs H Q E) : t_L_values Z { nx := fun _ H' => Q .non H', rt := Q } (start ["_law_d", "_law_most", "_law_k"] vs) H := by
  obtain ⟨d, m, rfl, x, hm, q⟩ := h
  unfold t_L_values
  refine s_ret_of (e_lcRX (fun n H1 => n < m + 1 ∧ Chg (Dc d) H H1 ∧ DiceAt Z.K H1 d) (fun R hR => s_next (m := m + 1) rfl x (ev_is (ev_add (ev_var rfl) ev_c) rfl) (by omega) (by omega) fun r H1 hr c1 x1 => hR r H1 ⟨hr, c1, x1⟩) ?_)
  rintro n H1 ⟨hn, c1, x1⟩
  refine e_lcR ev_c (by omega) (fun D i H' => Chg (Dc d) H1 H' ∧ DiceAt Z.K H' d ∧ ∃ ns : List Int, ns.length = i ∧ (∀ v ∈ ns, okVal v) ∧ H' D = some (.lst (ns.map V.int)))
    (fun D hD => ⟨Chg.same (Same.new hD), x1.same (Same.new hD), [], rfl, (by simp), upd_same⟩) (fun D i H' hi hD p => ?_) (fun D H' hD p => ?_)
  · obtain ⟨c2, x2, ns, rfl, hv, hl⟩ := p
    have nD := x1.ne hD
    refine ⟨rfl, et_yes _ (iteT (s_next rfl x2 (ev_N 100 rfl) (by decide) (by decide) fun r H2 hr c3 x3 => ?_))⟩
    have hl3 := c3.ne hl nD
    refine ⟨_, hl3, by rw [List.length_map]; exact Nat.lt_of_lt_of_le hi (Nat.le_trans (by omega : n ≤ 1001) (by decide)), chg_fill (c2.trans c3) hD, x3.fill hl3 nD, ns ++ [(r : Int)], by simp, ?_, ?_⟩
    · intro v hv'
      rcases List.mem_append.mp hv' with z | z
      · exact hv v z
      · have e : v = (r : Int) := by simpa using z
        rw [e]
        exact ⟨by omega, by omega⟩
    · rw [upd_same, List.map_append]
      rfl
  · obtain ⟨c2, x2, ns, hn2, hv, hl⟩ := p
    exact q D ns H' (c1.free' (x1.ne hD) hD) (c1.trans c2) x2 hl (by omega) hv
theorem rising_snoc : ∀ {l : List Nat} {i : Nat}, rising l → (∀ h ∈ l, h < i) → rising (l ++ [i])
  | [], i, _, _ => trivial
  | [a], i, _, h => ⟨h a (by simp), trivial⟩
  | a :: b :: l, i, hr, h => ⟨hr.1, rising_snoc (l := b :: l) hr.2 fun x hx => h x (List.mem_cons_of_mem _ hx)⟩
theorem pure_L_rule {Z : Cs} (vs : List V) (H : Hp) (Q : VK) (E : XK) (h : sp_L_rule Z vs H Q E) : t_L_rule Z { nx := fun _ H' => Q .non H', rt := Q } (start ["_law_d", "_law_many", "_law_kind", "_law_hand"] vs) H := by
  obtain ⟨d, many, rfl, x, hm, q⟩ := h
  unfold t_L_rule
  walk_at "q"
  refine s_next rfl x (ev_N 4 rfl) (by decide) (by decide) fun kind H1 hk c1 x1 => ?_
  show ({ nx := _, rt := Q : Ends }).nx _ _
  walk_at "q"
  refine s_if (et_test (ev_lt (ev_var rfl) ev_c)) (fun e => ?_) (fun e => ?_)
  · refine s_ret_of (t_tup_of (t_cons_of (ev_c _ (t_cons_of (t_op_of (ev_c _ (t_call_of (t_cons_of (ev_var rfl _ (t_cons_of (t_op_of (e_lst (ea_cons ev_c (ea_cons ev_c ea_nil)) (by show 2 ≤ 1000; decide) fun l hl => ?_))))))))))))
    have x2 := x1.same (Same.new (o := .lst [.int 3, .int 15]) hl)
    refine s_next rfl x2 (ev_N 2 rfl) (by decide) (by decide) fun r H2 hr c2 x3 => ?_
    have hl2 := c2.ne (upd_same (H := H1) (a := l) (o := .lst [.int 3, .int 15])) (x1.ne hl)
    obtain ⟨b, hb, hat⟩ : ∃ b : Nat, (1 ≤ b ∧ b ≤ 15) ∧ atI [V.int 3, V.int 15] (r : Int) = some (.int b) := by
      have : r = 0 ∨ r = 1 := by omega
      rcases this with rfl | rfl
      · exact ⟨3, by decide, rfl⟩
      · exact ⟨15, by decide, rfl⟩
    refine ⟨l, _, _, _, rfl, rfl, SqL.of hl2, hat, ?_⟩
    refine ⟨d, b, rfl, x3, by omega, by omega, fun z H3 hz c3 x4 => ?_⟩
    refine ⟨1, z, rfl, rfl, by show 2 ≤ sizeLine; decide, fun p hp => ?_⟩
    refine q p (.counts (1 + z)) _ (chg_new (((c1.trans (Chg.same (Same.new hl))).trans c2).trans c3) hp) (x4.same (Same.new hp)) ?_ ⟨by omega, by omega⟩
    show upd _ _ _ _ = _
    rw [upd_same]
    rfl
  · dsimp only [tNext]
    walk_at "q"
    refine s_if (et_test (ev_eq (ev_var rfl) ev_c rfl)) (fun e => ?_) (fun e => ?_)
    · refine s_ret_of (t_tup_of (t_cons_of (ev_c _ (t_cons_of (t_cb_of (t_cons_of ?_))))))
      refine e_lcR (ev_var rfl) (by omega) (fun D i H' => Chg (Dc d) H1 H' ∧ DiceAt Z.K H' d ∧ ∃ hs : List Nat, (∀ h ∈ hs, h < i) ∧ rising hs ∧ hs.length ≤ i ∧ H' D = some (.lst (hs.map natV)))
        (fun D hD => ⟨Chg.same (Same.new hD), x1.same (Same.new hD), [], (by simp), trivial, Nat.le_refl _, upd_same⟩) (fun D i H' hi hD p => ?_) (fun D H' hD p => ?_)
      · obtain ⟨c2, x2, hs, h1, h2, h3, hl⟩ := p
        have nD := x1.ne hD
        refine ⟨rfl, t_test_of (t_op_of (s_next rfl x2 (ev_N 2 rfl) (by decide) (by decide) fun r H2 hr c3 x3 => ?_))⟩
        have hl3 := c3.ne hl nD
        refine ⟨rfl, _, rfl, ?_⟩
        cases e : decide (V.int (r : Int) = V.int 1) with
        | true =>
          refine iteT (ev_var rfl _ ⟨_, hl3, by rw [List.length_map]; exact Nat.lt_of_le_of_lt h3 (Nat.lt_of_lt_of_le hi (Nat.le_trans hm (by decide))), chg_fill (c2.trans c3) hD, x3.fill hl3 nD, hs ++ [i], ?_, ?_, by simp; omega, ?_⟩)
          · intro h hh
            rcases List.mem_append.mp hh with z | z
            · have := h1 h z; omega
            · have e : h = i := by simpa using z
              omega
          · exact rising_snoc h2 h1
          · rw [upd_same, List.map_append]
            rfl
        | false => exact iteF ⟨c2.trans c3, x3, hs, fun h hh => by have := h1 h hh; omega, h2, by omega, hl3⟩
      · obtain ⟨c2, x2, hs, h1, h2, h3, hl⟩ := p
        refine ⟨D, _, rfl, .inl ⟨SqL.of hl, fun t ht => ?_⟩⟩
        refine ⟨by show 2 ≤ sizeLine; decide, fun p hp => ?_⟩
        refine q p (.marks hs) _ (chg_new (chg_new (c1.trans c2) ht) hp) ((x2.same (Same.new ht)).same (Same.new hp)) ⟨t, upd_same, ?_⟩ ⟨h1, h2, by omega⟩
        exact Same.new hp _ _ upd_same
    · dsimp only [tNext]
      exact e_tup (ea_cons ev_c ea_nil) (by show 1 ≤ 1000; decide) fun p hp => q p .keeps _ (chg_new c1 hp) (x1.same (Same.new hp)) upd_same trivial
end SS

set_option Elab.async false
set_option linter.all false
set_option maxRecDepth 100000
set_option maxHeartbeats 4000000
namespace SS
open PySem L2
local macro_rules | `(tactic| walk_at "q") => `(tactic| ((try dsimp only); refine s_seq ?_))

theorem s_deed {Z : Cs} {H : Hp} {s : L2.St} {n d : Nat} {Q : VK} (h : s[n]? = some (some (.ref d))) (x : DiceAt Z.K H d) (k : ∀ v (e : Deed) H', Chg (Dc d) H H' → DiceAt Z.K H' d → DeedAt H' v e → okDeed e → Q v H') :
    tCall (sp_L_deed Z) [] E0 (tCons (tVar n) tNil) s H Q := s_call (ea_cons (ev_var h) ea_nil) ⟨d, rfl, x, k⟩
/-- programs that stand: lists of deeds, none of them is the dice -/
theorem ProgAt.ne {K : PySem.W.Frag} {H : Hp} {d : Addr} {q : Addr} {us : List V} {ds : List Deed} (x : DiceAt K H d) (h : H q = some (.lst us)) (hd : All2 (DeedAt H) us ds) : q ≠ d := by
  obtain ⟨sc, ns, a, b, c, h1, _⟩ := x
  intro e
  rw [e, h1] at h
  cases h
  cases hd with
  | cons r t => cases t with
    | cons r2 t2 =>
      obtain ⟨q2, e2, _⟩ := r2
      cases e2
theorem ProgAt.dice {K : PySem.W.Frag} {H H' : Hp} {d : Addr} {v : V} {ds : List Deed} (c : Chg (Dc d) H H') (x : DiceAt K H d) (h : ProgAt H v ds) : ProgAt H' v ds := by
  obtain ⟨q, us, rfl, h1, h2⟩ := h
  exact ⟨q, us, rfl, c.ne h1 (ProgAt.ne x h1 h2), h2.mono fun _ _ => DeedAt.mono c.tup⟩
theorem PgAt.ne {K : PySem.W.Frag} {H : Hp} {d l : Addr} {us : List V} {ps : List (List Deed)} (x : DiceAt K H d) (h : H l = some (.lst us)) (hd : All2 (ProgAt H) us ps) : l ≠ d := by
  obtain ⟨sc, ns, a, b, c, h1, _⟩ := x
  intro e
  rw [e, h1] at h
  cases h
  cases hd with
  | cons r t => cases t with
    | cons r2 t2 =>
      obtain ⟨q2, us, e2, _⟩ := r2
      cases e2
theorem PgAt.dice {K : PySem.W.Frag} {H H' : Hp} {d l : Addr} {ps : List (List Deed)} (c : Chg (Dc d) H H') (x : DiceAt K H d) (h : PgAt H l ps) : PgAt H' l ps := by
  obtain ⟨us, h1, h2⟩ := h
  exact ⟨us, c.ne h1 (PgAt.ne x h1 h2), h2.mono fun _ _ => ProgAt.dice c x⟩
theorem ProgAt.same {H H' : Hp} {v : V} {ds : List Deed} (c : Same H H') (h : ProgAt H v ds) : ProgAt H' v ds := by
  obtain ⟨q, us, rfl, h1, h2⟩ := h
  exact ⟨q, us, rfl, c _ _ h1, h2.mono fun _ _ => DeedAt.mono fun b xs e => c _ _ e⟩
theorem PgAt.same {H H' : Hp} {l : Addr} {ps : List (List Deed)} (c : Same H H') (h : PgAt H l ps) : PgAt H' l ps := by
  obtain ⟨us, h1, h2⟩ := h
  exact ⟨us, c _ _ h1, h2.mono fun _ _ => ProgAt.same c⟩
theorem All2.reverse {α β : Type} {R : α → β → Prop} : ∀ {l m}, All2 R l m → All2 R l.reverse m.reverse
  | _, _, .nil => .nil
  | _, _, .cons r t => by
    rw [List.reverse_cons, List.reverse_cons]
    exact All2.snoc r (All2.reverse t)
theorem pure_L_weaving {Z : Cs} (vs : List V) (H : Hp) (Q : VK) (E : XK) (h : sp_L_weaving Z vs H Q E) : t_L_weaving Z { nx := fun _ H' => Q .non H', rt := Q } (start ["_law_d", "_law_many", "_law_most", "_law_weaving_here", "_law_k"] vs) H := by
  obtain ⟨d, many, most, rfl, x, h1, h2, h3, h4, q⟩ := h
  unfold t_L_weaving
  walk_at "q"
  refine s_asg_of (e_lst ea_nil (by show 0 ≤ 1000; decide) fun l hl => ?_)
  have x1 := x.same (Same.new (o := .lst []) hl)
  show ({ nx := _, rt := Q : Ends }).nx _ _
  walk_at "q"
  refine s_forRX (fun n H1 => n < most ∧ Chg (Dc d) (upd H l (.lst [])) H1 ∧ DiceAt Z.K H1 d) (fun R hR => s_next rfl x1 (ev_var rfl) (by omega) (by omega) fun r H1 hr c1 x1 => hR r H1 ⟨hr, c1, x1⟩) ?_
  rintro n H1 ⟨hn, c1, x2⟩
  have hl1 := c1.ne (upd_same (H := H) (a := l) (o := .lst [])) (x.ne hl)
  refine s_forR ev_c (by omega) (fun i s' H' => ∃ (lw : Addr) (w : List Nat) (k : Option V), s' = [some (.ref d), some (.int many), some (.int most), some (.ref lw), k] ∧ H lw = none ∧ Chg (Dc d) H H' ∧ DiceAt Z.K H' d ∧ H' lw = some (.lst (w.map natV)) ∧ (∀ h ∈ w, h < many) ∧ w.length ≤ 5 * i)
    ⟨l, [], none, rfl, hl, (Chg.same (Same.new hl)).trans c1, x2, hl1, by simp, by simp⟩ ?_ ?_
  · rintro i s' H' hi ⟨lw, w, k, rfl, hlw, c2, x3, hw, hh, hlen⟩
    refine s_asg_of (t_op_of (ev_var rfl _ (t_op_of (t_lst_of (t_cons_of (s_next rfl x3 (ev_var rfl) h1 (by omega) fun r H2 hr c3 x4 => ?_))))))
    refine ⟨by show 1 ≤ sizeLine; decide, fun l2 hl2 => ?_⟩
    have x5 := x4.same (Same.new (o := .lst [.int r]) hl2)
    refine t_op_of (ev_c _ (s_next rfl x5 (ev_N 5 rfl) (by decide) (by decide) fun z H3 hz c4 x6 => ?_))
    have e1 := c4.ne (upd_same (H := H2) (a := l2) (o := .lst [.int r])) (x4.ne hl2)
    refine ⟨1, z, rfl, rfl, ?_⟩
    refine ⟨l2, 1 + z, _, rfl, rfl, e1, by omega, by omega, ?_, fun l3 hl3 => ?_⟩
    · show 1 * (1 + (z : Int)).toNat ≤ sizeLine
      exact Nat.le_trans (by omega : 1 * (1 + (z : Int)).toNat ≤ 1000) (by decide)
    have nlw : lw ≠ d := x.ne hlw
    have w1 := c3.ne hw nlw
    have w2 := Same.new (o := .lst [.int r]) hl2 _ _ w1
    have w3 := c4.ne w2 nlw
    have w4 := Same.new (o := .lst (List.replicate (1 + (z : Int)).toNat [V.int r]).flatten) hl3 _ _ w3
    have erep : (List.replicate (1 + (z : Int)).toNat [V.int (r : Int)]).flatten = (List.replicate (1 + z) r).map natV := by
      rw [show (1 + (z : Int)).toNat = 1 + z by omega]
      induction (1 + z) with
      | zero => rfl
      | succ n ih => rw [List.replicate_succ, List.flatten_cons, ih, List.replicate_succ]; rfl
    refine ⟨lw, l3, _, _, rfl, rfl, w4, upd_same, ?_, fun l4 hl4 => ?_⟩
    · rw [erep, List.length_map, List.length_map, List.length_replicate]
      exact Nat.le_trans (by omega : w.length + (1 + z) ≤ 10000) (by decide)
    have cc : Chg (Dc d) H (upd H3 l3 (.lst (List.replicate (1 + (z : Int)).toNat [V.int r]).flatten)) := chg_new (((c2.trans c3).trans (Chg.same (Same.new hl2))).trans c4) hl3
    have x7 := x6.same (Same.new (o := .lst (List.replicate (1 + (z : Int)).toNat [V.int r]).flatten) hl3)
    refine ⟨l4, w ++ List.replicate (1 + z) r, _, rfl, cc.free' (x7.ne hl4) hl4, chg_new cc hl4, x7.same (Same.new hl4), ?_, ?_, ?_⟩
    · rw [upd_same, erep, List.map_append]
    · intro y hy
      rcases List.mem_append.mp hy with z | z
      · exact hh y z
      · have e := List.eq_of_mem_replicate z
        omega
    · rw [List.length_append, List.length_replicate]
      omega
  · rintro s' H' ⟨lw, w, k, rfl, hlw, c2, x3, hw, hh, hlen⟩
    exact s_ret (ev_var rfl) (q lw w H' hlw c2 x3 hw hh (by omega))
theorem natN (n : Nat) : V.int (n : Int) = natV n := rfl
theorem All2.mem {α β : Type} {R : α → β → Prop} {a : α} : ∀ {l m}, All2 R l m → a ∈ l → ∃ b, R a b
  | _, _, .nil, h => by cases h
  | _, _, .cons r t, h => by
    rcases List.mem_cons.mp h with z | z
    · exact ⟨_, by rw [z]; exact r⟩
    · exact All2.mem t z
/-- a list of deeds is put anew -/
theorem ProgAt.put {H : Hp} {l q : Addr} {us vs : List V} {ds : List Deed} (hl : H l = some (.lst vs)) (h : H q = some (.lst us)) (hd : All2 (DeedAt H) us ds) (n : q ≠ l) {ws : List V} : ProgAt (upd H l (.lst ws)) (.ref q) ds :=
  ⟨q, us, rfl, by rw [upd_ne n]; exact h, hd.mono fun _ _ => DeedAt.mono fun b xs e => by rw [upd_ne (fun z => by rw [z, hl] at e; cases e)]; exact e⟩
theorem pure_L_programs {Z : Cs} (vs : List V) (H : Hp) (Q : VK) (E : XK) (h : sp_L_programs Z vs H Q E) : t_L_programs Z { nx := fun _ H' => Q .non H', rt := Q } (start ["_law_d", "_law_hands", "_law_deeds", "_law_rows", "_law_k", "_law_hand"] vs) H := by
  obtain ⟨d, hn, dn, rfl, x, h1, h2, h3, q⟩ := h
  unfold t_L_programs
  -- the second way: programs drawn row by row
  have rows : ∀ (D0 : Ends) H1, Chg (Dc d) H H1 → DiceAt Z.K H1 d → D0.rt = Q →
      tRet (tLc (iRng1 (tCons (tOp rAddI (tC (.int 1)) (tCall (sp_L_next Z) [] E0 (tCons (tVar 0) (tCons (tVar 1) tNil)))) tNil)) (gName 5) tYes (tLc (iRng1 (tCons (tCall (sp_L_next Z) [] E0 (tCons (tVar 0) (tCons (tOp rAddI (tVar 2) (tC (.int 1))) tNil))) tNil)) (gName 4) tYes (tCall (sp_L_deed Z) [] E0 (tCons (tVar 0) tNil)) [4]) [5])
        D0 (start ["_law_d", "_law_hands", "_law_deeds", "_law_rows", "_law_k", "_law_hand"] [.ref d, .int hn, .int dn]) H1 := by
    intro D0 H1 c1 x1 eD
    refine s_ret_of ?_
    rw [eD]
    refine e_lcRX (fun n H2 => (1 ≤ n ∧ n ≤ hn) ∧ Chg (Dc d) H1 H2 ∧ DiceAt Z.K H2 d) (fun R hR => t_op_of (ev_c _ (s_next rfl x1 (ev_var rfl) (by omega) (by omega) fun r H2 hr c2 x2 => ⟨1, r, rfl, rfl, ?_⟩))) ?_
    · show R (.int ((1 : Int) + (r : Int))) H2
      rw [show (1 : Int) + (r : Int) = ((1 + r : Nat) : Int) by omega]
      exact hR (1 + r) H2 ⟨by omega, c2, x2⟩
    rintro n H2 ⟨hnn, c2, x2⟩
    refine e_lcR ev_c (by omega) (fun D i H' => Chg (Dc d) H2 H' ∧ DiceAt Z.K H' d ∧ ∃ (us : List V) (ps : List (List Deed)), ps.length = i ∧ H' D = some (.lst us) ∧ All2 (ProgAt H') us ps ∧ (∀ p ∈ ps, p.length ≤ 4) ∧ (∀ p ∈ ps, ∀ e ∈ p, okDeed e))
      (fun D hD => ⟨Chg.same (Same.new hD), x2.same (Same.new hD), [], [], rfl, upd_same, .nil, by simp, by simp⟩) (fun D i H' hi hD p => ?_) (fun D H' hD p => ?_)
    · obtain ⟨c3, x3, us, ps, rfl, hl, hu, hp4, hpd⟩ := p
      have nD := x2.ne hD
      refine ⟨rfl, et_yes _ (iteT ?_)⟩
      refine e_lcRX (fun m H3 => m < dn + 1 ∧ Chg (Dc d) H' H3 ∧ DiceAt Z.K H3 d) (fun R hR => s_next (m := dn + 1) rfl x3 (ev_is (ev_add (ev_var rfl) ev_c) rfl) (by omega) (by omega) fun r H3 hr c4 x4 => hR r H3 ⟨hr, c4, x4⟩) ?_
      rintro m H3 ⟨hm, c4, x4⟩
      refine e_lcR ev_c (by omega) (fun D2 j H4 => Chg (Dc d) H3 H4 ∧ DiceAt Z.K H4 d ∧ ∃ (vs : List V) (ds : List Deed), ds.length = j ∧ H4 D2 = some (.lst vs) ∧ All2 (DeedAt H4) vs ds ∧ (∀ e ∈ ds, okDeed e))
        (fun D2 hD2 => ⟨Chg.same (Same.new hD2), x4.same (Same.new hD2), [], [], rfl, upd_same, .nil, by simp⟩) (fun D2 j H4 hj hD2 p => ?_) (fun D2 H4 hD2 p => ?_)
      · obtain ⟨c5, x5, vs, ds, rfl, hl2, hv, hd⟩ := p
        have nD2 := x4.ne hD2
        refine ⟨rfl, et_yes _ (iteT (s_deed rfl x5 fun v e H5 c6 x6 hve he => ?_))⟩
        have hl3 := c6.ne hl2 nD2
        have hlen := hv.length
        refine ⟨vs, hl3, by rw [hlen]; exact Nat.lt_of_lt_of_le (by omega : ds.length < 1000) (by decide), chg_fill (c5.trans c6) hD2, x6.fill hl3 nD2, vs ++ [v], ds ++ [e], by simp, upd_same, ?_, ?_⟩
        · have tup : Tups H5 (upd H5 D2 (.lst (vs ++ [v]))) := fun b xs e => by
            rw [upd_ne (fun z => by rw [z, hl3] at e; cases e)]
            exact e
          exact (hv.mono fun _ _ => DeedAt.mono fun b xs e => tup _ _ (c6.tup _ _ e)).snoc (hve.mono tup)
        · intro y hy
          rcases List.mem_append.mp hy with z | z
          · exact hd y z
          · have e' : y = e := by simpa using z
            rw [e']
            exact he
      · obtain ⟨c5, x5, vs, ds, hds, hl2, hv, hd⟩ := p
        have hlD := (c4.trans c5).ne hl nD
        have pr : ProgAt H4 (.ref D2) ds := ⟨D2, vs, rfl, hl2, hv⟩
        have nDD2 : D2 ≠ D := by
          have := c4.ne hl nD
          exact fun e => by rw [e, this] at hD2; cases hD2
        have hul := hu.length
        refine ⟨us, hlD, by rw [hul]; exact Nat.lt_of_lt_of_le (by omega : ps.length < 1000) (by decide), chg_fill ((c3.trans c4).trans c5) hD, x5.fill hlD nD, us ++ [.ref D2], ps ++ [ds], by simp, upd_same, ?_, ?_, ?_⟩
        · have hu4 : All2 (ProgAt H4) us ps := hu.mono fun _ _ => ProgAt.dice (c4.trans c5) x3
          have stepD : ∀ v ds, ProgAt H4 v ds → v ≠ .ref D → ProgAt (upd H4 D (.lst (us ++ [.ref D2]))) v ds := by
            rintro v ds ⟨q, vs, rfl, a1, a2⟩ nv
            have nq : q ≠ D := fun z => nv (by rw [z])
            exact ⟨q, vs, rfl, by rw [upd_ne nq]; exact a1, a2.mono fun _ _ => DeedAt.mono fun b xs e => by rw [upd_ne (fun z => by rw [z, hlD] at e; cases e)]; exact e⟩
          have main : ∀ {us' : List V} {ps' : List (List Deed)}, All2 (ProgAt H4) us' ps' → All2 (ProgAt H') us' ps' → (∀ u ∈ us', u ≠ .ref D) → All2 (ProgAt (upd H4 D (.lst (us ++ [.ref D2])))) us' ps' := by
            intro us' ps' a1
            induction a1 with
            | nil => intro _ _; exact .nil
            | cons r t ih =>
              intro a2 hn
              cases a2 with
              | cons r2 t2 => exact .cons (stepD _ _ r (hn _ List.mem_cons_self)) (ih t2 fun u hu => hn u (List.mem_cons_of_mem _ hu))
          have noD : ∀ u ∈ us, u ≠ .ref D := by
            intro u hu' e
            rw [e] at hu'
            obtain ⟨dsD, q2, vs2, e2, a1, a2⟩ := hu.mem hu'
            cases e2
            rw [hl] at a1
            cases a1
            obtain ⟨eD, q3, e3, a3⟩ := a2.mem hu'
            cases e3
            rw [hl] at a3
            cases a3
          exact (main hu4 hu noD).snoc (stepD _ _ pr fun z => nDD2 (V.ref.inj z))
        · intro y hy
          rcases List.mem_append.mp hy with z | z
          · exact hp4 y z
          · have e' : y = ds := by simpa using z
            rw [e']
            omega
        · intro y hy
          rcases List.mem_append.mp hy with z | z
          · exact hpd y z
          · have e' : y = ds := by simpa using z
            rw [e']
            exact hd
    · obtain ⟨c3, x3, us, ps, hps, hl, hu, hp4, hpd⟩ := p
      exact q D ps H' ((c1.trans c2).free' (x2.ne hD) hD) ((c1.trans c2).trans c3) x3 ⟨us, hl, hu⟩ (by omega) (by omega) hp4 hpd
  walk_at "q"
  by_cases e1 : hn = 1
  · refine s_ifF (et_is (et_and (b := true) (et_test (ev_gt (ev_var rfl) ev_c)) fun e => ?_) ?_) (rows _ H (Chg.refl _ _) x rfl)
    · exact absurd (of_decide_eq_true e) (by omega)
    · rw [decide_eq_false (by omega)]
      rfl
  refine s_if_of ?_
  refine (et_test (ev_is (ev_gt (ev_var rfl) ev_c) (by rw [decide_eq_true (by omega)]))) _ (iteT ?_)
  refine t_test_of (t_op_of (s_next rfl x (ev_N 3 rfl) (by decide) (by decide) fun r H1 hr c1 x1 => ?_))
  refine ⟨rfl, _, rfl, ?_⟩
  cases e : decide (V.int (r : Int) = V.int 2) with
  | false => exact iteF (rows _ H1 c1 x1 rfl)
  | true =>
    refine iteT ?_
    walk_at "q"
    -- the two rows
    refine s_asg_of (t_lst_of (t_cons_of (t_lst_of (t_cons_of (e_tup (ea_cons ev_c ea_nil) (by show 1 ≤ 1000; decide) fun t1 ht1 => ?_)))))
    refine ⟨by show 1 ≤ sizeLine; decide, fun l1 hl1 => ?_⟩
    have f1 : H l1 = none := (chg_new (o := .tup [.str "pop"]) c1 ht1).free' ((x1.same (Same.new (o := .tup [.str "pop"]) ht1)).ne hl1) hl1
    have d1 : DeedAt (upd H1 t1 (.tup [.str "pop"])) (.ref t1) .pop := ⟨t1, rfl, upd_same⟩
    have c2 := chg_new (o := .lst [.ref t1]) (chg_new (o := .tup [.str "pop"]) c1 ht1) hl1
    have x2 := (x1.same (Same.new (o := .tup [.str "pop"]) ht1)).same (Same.new (o := .lst [.ref t1]) hl1)
    have p1 : ProgAt (upd (upd H1 t1 (.tup [.str "pop"])) l1 (.lst [.ref t1])) (.ref l1) [.pop] := ⟨l1, _, rfl, upd_same, .cons (d1.mono fun b xs e => Same.new hl1 _ _ e) .nil⟩
    generalize hG2 : upd (upd H1 t1 (.tup [.str "pop"])) l1 (.lst [.ref t1]) = G2 at c2 x2 p1
    refine t_cons_of (t_lst_of (t_cons_of (e_tup (ea_cons ev_c ea_nil) (by show 1 ≤ 1000; decide) fun t2 ht2 => ?_)))
    refine t_cons_of (e_tup (ea_cons ev_c ea_nil) (by show 1 ≤ 1000; decide) fun t3 ht3 => ?_)
    have d2 : DeedAt (upd (upd G2 t2 (.tup [.str "pop"])) t3 (.tup [.str "pop"])) (.ref t2) .pop := ⟨t2, rfl, Same.new ht3 _ _ upd_same⟩
    have d3 : DeedAt (upd (upd G2 t2 (.tup [.str "pop"])) t3 (.tup [.str "pop"])) (.ref t3) .pop := ⟨t3, rfl, upd_same⟩
    have c3 := chg_new (o := .tup [.str "pop"]) (chg_new (o := .tup [.str "pop"]) c2 ht2) ht3
    have x3 := (x2.same (Same.new (o := .tup [.str "pop"]) ht2)).same (Same.new (o := .tup [.str "pop"]) ht3)
    have p2 := ProgAt.same (Same.new (o := .tup [.str "pop"]) ht3) (ProgAt.same (Same.new (o := .tup [.str "pop"]) ht2) p1)
    generalize hG3 : upd (upd G2 t2 (.tup [.str "pop"])) t3 (.tup [.str "pop"]) = G3 at d2 d3 c3 x3 p2
    refine t_cons_of (t_tup_of (t_cons_of (ev_c _ (t_cons_of (s_next rfl x3 (ev_N 100 rfl) (by decide) (by decide) fun z H4 hz c4 x4 => ?_)))))
    have d2 := d2.mono c4.tup
    have d3 := d3.mono c4.tup
    have p3 := ProgAt.dice c4 x3 p2
    refine ⟨by show 2 ≤ sizeLine; decide, fun t4 ht4 => ?_⟩
    refine ⟨by show 3 ≤ sizeLine; decide, fun l2 hl2 => ?_⟩
    have f2 : H l2 = none := (chg_new (o := .tup [.str "push", .int z]) (c3.trans c4) ht4).free' ((x4.same (Same.new (o := .tup [.str "push", .int z]) ht4)).ne hl2) hl2
    have sm : Same H4 (upd (upd H4 t4 (.tup [.str "push", .int z])) l2 (.lst [.ref t2, .ref t3, .ref t4])) := fun b o e => Same.new hl2 _ _ (Same.new ht4 _ _ e)
    have q2 : ProgAt (upd (upd H4 t4 (.tup [.str "push", .int z])) l2 (.lst [.ref t2, .ref t3, .ref t4])) (.ref l2) [.pop, .pop, .push z] :=
      ⟨l2, _, rfl, upd_same, .cons (d2.mono fun b xs e => sm _ _ e) (.cons (d3.mono fun b xs e => sm _ _ e) (.cons ⟨t4, rfl, Same.new hl2 _ _ upd_same⟩ .nil))⟩
    have c5 := (c3.trans c4).trans (Chg.same (F := Dc d) sm)
    have x5 := x4.same sm
    have p4 := ProgAt.same sm p3
    have n12 : l1 ≠ l2 := by
      obtain ⟨q, us, e, h, _⟩ := p3
      cases e
      exact ne_of_none (Same.new ht4 _ _ h) hl2
    generalize hG5 : upd (upd H4 t4 (.tup [.str "push", .int z])) l2 (.lst [.ref t2, .ref t3, .ref t4]) = G5 at q2 c5 x5 p4
    refine ⟨by show 2 ≤ sizeLine; decide, fun l3 hl3 => ?_⟩
    have c6 := chg_new (o := .lst [.ref l1, .ref l2]) c5 hl3
    have x6 := x5.same (Same.new (o := .lst [.ref l1, .ref l2]) hl3)
    have p5 := ProgAt.same (Same.new (o := .lst [.ref l1, .ref l2]) hl3) p4
    have q3 := ProgAt.same (Same.new (o := .lst [.ref l1, .ref l2]) hl3) q2
    have r3 : upd G5 l3 (.lst [.ref l1, .ref l2]) l3 = some (.lst [.ref l1, .ref l2]) := upd_same
    have n3d : l3 ≠ d := x5.ne hl3
    have n13 : l1 ≠ l3 := by
      obtain ⟨q, us, e, h, _⟩ := p4
      cases e
      exact ne_of_none h hl3
    have n23 : l2 ≠ l3 := by
      obtain ⟨q, us, e, h, _⟩ := q2
      cases e
      exact ne_of_none h hl3
    generalize hG6 : upd G5 l3 (.lst [.ref l1, .ref l2]) = G6 at c6 x6 p5 q3 r3
    show ({ nx := _, rt := Q : Ends }).nx _ G6
    walk_at "q"
    -- one of them gets a deed more
    refine s_drop' (t_bm_of (t_op_of (ev_var rfl _ (s_next rfl x6 (ev_N 2 rfl) (by decide) (by decide) fun w H7 hw c7 x7 => ?_))))
    have p6 := ProgAt.dice c7 x6 p5
    have q4 := ProgAt.dice c7 x6 q3
    have r4 := c7.ne r3 n3d
    have hat : atI [V.ref l1, V.ref l2] (w : Int) = some (.ref (if w = 0 then l1 else l2)) := by
      have : w = 0 ∨ w = 1 := by omega
      rcases this with rfl | rfl <;> rfl
    refine ⟨l3, _, w, _, rfl, rfl, SqL.of r4, hat, ?_⟩
    have ty : ∃ us, H7 (if w = 0 then l1 else l2) = some (.lst us) := by
      obtain ⟨q, us, e, h, _⟩ := p6
      cases e
      obtain ⟨q', us', e', h', _⟩ := q4
      cases e'
      split
      · exact ⟨_, h⟩
      · exact ⟨_, h'⟩
    obtain ⟨us7, hus7⟩ := ty
    refine ⟨.inl ⟨rfl, _, SqL.of hus7⟩, t_cons_of (ev_c _ (t_cons_of (s_deed rfl x7 fun v ed H8 c8 x8 hv8 hed => ?_)))⟩
    have p7 := ProgAt.dice c8 x7 p6
    have q5 := ProgAt.dice c8 x7 q4
    have r5 := c8.ne r4 n3d
    have cc := (c6.trans c7).trans c8
    obtain ⟨a1, us1, ea, hp1, hd1⟩ := p7
    cases ea
    obtain ⟨a2, us2, ea, hp2, hd2⟩ := q5
    cases ea
    -- the list that is changed, and the programs behind it
    have fin : ∀ H9, Chg (Dc d) H H9 → DiceAt Z.K H9 d → H9 l3 = some (.lst [.ref l1, .ref l2]) → (∃ dsA dsB, ProgAt H9 (.ref l1) dsA ∧ ProgAt H9 (.ref l2) dsB ∧ (dsA.length ≤ 4 ∧ dsB.length ≤ 4) ∧ (∀ e ∈ dsA, okDeed e) ∧ ∀ e ∈ dsB, okDeed e) →
        tRet (tStepL Z.K (tVar 3) (tOp (rIxL Z.K) (tLst (tCons (tC (.int 1)) (tCons (tUn rNegI (tC (.int 1))) tNil))) (tCall (sp_L_next Z) [] E0 (tCons (tVar 0) (tCons (tC (.int 2)) tNil))))) { nx := fun _ H' => Q .non H', rt := Q } ((start ["_law_d", "_law_hands", "_law_deeds", "_law_rows", "_law_k", "_law_hand"] [.ref d, .int hn, .int dn]).set 3 (some (.ref l3))) H9 := by
      rintro H9 c9 x9 r9 ⟨dsA, dsB, pA, pB, ⟨lA, lB⟩, okA, okB⟩
      refine s_ret_of (ev_var rfl _ (t_op_of (e_lst (ea_cons ev_c (ea_cons (ev_neg ev_c) ea_nil)) (by show 2 ≤ 1000; decide) fun lk hlk => ?_)))
      have x10 := x9.same (Same.new (o := .lst [.int 1, .int (-1)]) hlk)
      refine s_next rfl x10 (ev_N 2 rfl) (by decide) (by decide) fun y H11 hy c11 x11 => ?_
      have hlk2 := c11.ne (upd_same (H := H9) (a := lk) (o := .lst [.int 1, .int (-1)])) (x9.ne hlk)
      have ck := (chg_new (o := .lst [.int 1, .int (-1)]) c9 hlk).trans c11
      have r11 := c11.ne (Same.new (o := .lst [.int 1, .int (-1)]) hlk _ _ r9) n3d
      have pA' := ProgAt.dice c11 x10 (ProgAt.same (Same.new hlk) pA)
      have pB' := ProgAt.dice c11 x10 (ProgAt.same (Same.new hlk) pB)
      have hk : ∃ k : Int, atI [V.int 1, V.int (-1)] (y : Int) = some (.int k) ∧ (k = 1 ∨ k = -1) := by
        have : y = 0 ∨ y = 1 := by omega
        rcases this with rfl | rfl
        · exact ⟨1, rfl, .inl rfl⟩
        · exact ⟨-1, rfl, .inr rfl⟩
      obtain ⟨k, hat, hk⟩ := hk
      refine ⟨lk, _, _, _, rfl, rfl, SqL.of hlk2, hat, k, rfl, l3, _, k, rfl, rfl, SqL.of r11, hk, fun l hl => ?_⟩
      rcases hk with rfl | rfl
      · rw [if_pos rfl]
        refine q l [dsA, dsB] _ (ck.free' (x11.ne hl) hl) (chg_new ck hl) (x11.same (Same.new hl)) ⟨_, upd_same, .cons (pA'.same (Same.new hl)) (.cons (pB'.same (Same.new hl)) .nil)⟩ (by simp) (by simp; omega) ?_ ?_
        · intro p hp
          simp only [List.mem_cons, List.not_mem_nil, or_false] at hp
          rcases hp with rfl | rfl
          · exact lA
          · exact lB
        · intro p hp
          simp only [List.mem_cons, List.not_mem_nil, or_false] at hp
          rcases hp with rfl | rfl
          · exact okA
          · exact okB
      · rw [if_neg (by decide)]
        refine q l [dsB, dsA] _ (ck.free' (x11.ne hl) hl) (chg_new ck hl) (x11.same (Same.new hl)) ⟨_, upd_same, .cons (pB'.same (Same.new hl)) (.cons (pA'.same (Same.new hl)) .nil)⟩ (by simp) (by simp; omega) ?_ ?_
        · intro p hp
          simp only [List.mem_cons, List.not_mem_nil, or_false] at hp
          rcases hp with rfl | rfl
          · exact lB
          · exact lA
        · intro p hp
          simp only [List.mem_cons, List.not_mem_nil, or_false] at hp
          rcases hp with rfl | rfl
          · exact okB
          · exact okA
    have ok3 : ∀ e ∈ [Deed.pop, .pop, .push z], okDeed e := by
      intro e he
      simp only [List.mem_cons, List.not_mem_nil, or_false] at he
      rcases he with rfl | rfl | rfl
      · trivial
      · trivial
      · exact ⟨by omega, by omega⟩
    have ok1 : ∀ e ∈ [Deed.pop], okDeed e := by
      intro e he
      simp only [List.mem_cons, List.not_mem_nil, or_false] at he
      rw [he]
      trivial
    by_cases w0 : w = 0
    · rw [if_pos w0]
      refine ⟨l1, us1, 0, v, rfl, rfl, hp1, by rw [hd1.length]; decide, by decide, by decide, ?_⟩
      have tup : Tups H8 (upd H8 l1 (.lst (List.take (Int.toNat 0) us1 ++ [v] ++ List.drop (Int.toNat 0) us1))) := fun b xs e => by
        rw [upd_ne (fun z => by rw [z, hp1] at e; cases e)]
        exact e
      refine fin _ (chg_fill cc f1) (x8.fill hp1 (ProgAt.ne x8 hp1 hd1)) (by rw [upd_ne n13.symm]; exact r5) ⟨ed :: [.pop], _, ⟨l1, _, rfl, upd_same, .cons (hv8.mono tup) (hd1.mono fun _ _ => DeedAt.mono tup)⟩, ProgAt.put hp1 hp2 hd2 n12.symm, ⟨by simp, by simp⟩, ?_, ok3⟩
      · intro e he
        rcases List.mem_cons.mp he with z | z
        · rw [z]; exact hed
        · exact ok1 e z
    · rw [if_neg w0]
      refine ⟨l2, us2, 0, v, rfl, rfl, hp2, by rw [hd2.length]; exact (by decide : 3 < sizeLine), by decide, by decide, ?_⟩
      have tup : Tups H8 (upd H8 l2 (.lst (List.take (Int.toNat 0) us2 ++ [v] ++ List.drop (Int.toNat 0) us2))) := fun b xs e => by
        rw [upd_ne (fun z => by rw [z, hp2] at e; cases e)]
        exact e
      refine fin _ (chg_fill cc f2) (x8.fill hp2 (ProgAt.ne x8 hp2 hd2)) (by rw [upd_ne n23.symm]; exact r5) ⟨[.pop], ed :: [.pop, .pop, .push z], ProgAt.put hp2 hp1 hd1 n12, ⟨l2, _, rfl, upd_same, .cons (hv8.mono tup) (hd2.mono fun _ _ => DeedAt.mono tup)⟩, ⟨by simp, by simp⟩, ok1, ?_⟩
      · intro e he
        rcases List.mem_cons.mp he with z | z
        · rw [z]; exact hed
        · exact ok3 e z
end SS

set_option Elab.async false
set_option linter.all false
set_option maxRecDepth 100000
set_option maxHeartbeats 4000000
namespace SS
open PySem L2
local macro_rules | `(tactic| walk_at "q") => `(tactic| ((try dsimp only); refine s_seq ?_))

/-! ### data of what stands on the heap -/
theorem seqT_same {K : PySem.W.Frag} {H H' : Hp} {a : Addr} {xs : List V} (e : Same H H') (h : SqT K H a xs) : SqT K H' a xs := by
  rcases h with (h | ⟨o, h⟩) | h
  · exact .inl (.inl (e _ _ h))
  · exact .inl (.inr ⟨o, e _ _ h⟩)
  · exact .inr h
mutual
theorem dp_same {K : PySem.W.Frag} {H H' : Hp} (c : Same H H') : ∀ (d : PyData) (v : V), Dp K H v d → Dp K H' v d
  | .none, _, h => by cases h; exact .non
  | .bool b, _, h => by cases h; exact .bl b
  | .int i, _, h => by cases h; exact .int i
  | .str x, _, h => by cases h; exact .str x
  | .list ds, _, h => by
    cases h with
    | lst hs ha => exact .lst (c.seq hs) (dpAll_same c ds _ ha)
  | .tuple ds, _, h => by
    cases h with
    | tup hs ha => exact .tup (seqT_same c hs) (dpAll_same c ds _ ha)
  | .dict _, _, h => by cases h
theorem dpAll_same {K : PySem.W.Frag} {H H' : Hp} (c : Same H H') : ∀ (ds : List PyData) (vs : List V), DpAll K H vs ds → DpAll K H' vs ds
  | [], _, h => by cases h; exact .nil
  | d :: ds, _, h => by
    cases h with
    | cons h1 h2 => exact .cons (dp_same c d _ h1) (dpAll_same c ds _ h2)
end
theorem dp_append {K : PySem.W.Frag} {H : Hp} : ∀ {vs ws : List V} {ds es : List PyData}, DpAll K H vs ds → DpAll K H ws es → DpAll K H (vs ++ ws) (ds ++ es)
  | _, _, _, _, .nil, h => h
  | _, _, _, _, .cons a b, h => .cons a (dp_append b h)
theorem dp_take {K : PySem.W.Frag} {H : Hp} : ∀ {vs : List V} {ds : List PyData} (n : Nat), DpAll K H vs ds → DpAll K H (vs.take n) (ds.take n)
  | _, _, 0, _ => by rw [List.take_zero, List.take_zero]; exact .nil
  | _, _, n + 1, .nil => .nil
  | _, _, n + 1, .cons a b => .cons a (dp_take n b)
theorem dp_get {K : PySem.W.Frag} {H : Hp} : ∀ {vs : List V} {ds : List PyData} (n : Nat) {d : PyData}, DpAll K H vs ds → ds[n]? = some d → ∃ v, vs[n]? = some v ∧ Dp K H v d
  | _, _, n, _, .nil, h => by cases n <;> cases h
  | _, _, 0, _, .cons a b, h => by cases h; exact ⟨_, rfl, a⟩
  | _, _, n + 1, _, .cons a b, h => by obtain ⟨v, h1, h2⟩ := dp_get n b (by simpa using h); exact ⟨v, by simpa using h1, h2⟩
theorem dp_of {α : Type} {K : PySem.W.Frag} {H : Hp} {R : V → α → Prop} {f : α → PyData} (g : ∀ v a, R v a → Dp K H v (f a)) : ∀ {vs : List V} {as : List α}, All2 R vs as → DpAll K H vs (as.map f)
  | _, _, .nil => .nil
  | _, _, .cons a b => .cons (g _ _ a) (dp_of g b)
theorem dp_len {K : PySem.W.Frag} {H : Hp} : ∀ {vs : List V} {ds : List PyData}, DpAll K H vs ds → vs.length = ds.length
  | _, _, .nil => rfl
  | _, _, .cons a b => congrArg (· + 1) (dp_len b)
def okD (n : Nat) (d : PyData) : Prop := d.canLay0 = true ∧ d.depth ≤ n
theorem okD.mono {n m : Nat} {d : PyData} (h : okD n d) (l : n ≤ m) : okD m d := ⟨h.1, Nat.le_trans h.2 l⟩
theorem okD_all {n : Nat} : ∀ {ds : List PyData}, (∀ d ∈ ds, okD n d) → PyData.canLayAll0 ds = true ∧ PyData.depthAll ds ≤ n
  | [], _ => by simp [PyData.canLayAll0, PyData.depthAll]
  | d :: ds, h => by
    obtain ⟨h1, h2⟩ := okD_all (ds := ds) fun x hx => h x (List.mem_cons_of_mem _ hx)
    obtain ⟨h3, h4⟩ := h d List.mem_cons_self
    simp only [PyData.canLayAll0, PyData.depthAll]
    exact ⟨by rw [h1, h3]; rfl, by omega⟩
theorem okD_list {n : Nat} {ds : List PyData} (h : ∀ d ∈ ds, okD n d) : okD (n + 1) (.list ds) := by
  obtain ⟨h1, h2⟩ := okD_all h
  exact ⟨by simp only [PyData.canLay0]; exact h1, by simp only [PyData.depth]; omega⟩
theorem okD_tup {n : Nat} {ds : List PyData} (h : ∀ d ∈ ds, okD n d) : okD (n + 1) (.tuple ds) := by
  obtain ⟨h1, h2⟩ := okD_all h
  exact ⟨by simp only [PyData.canLay0]; exact h1, by simp only [PyData.depth]; omega⟩
theorem okD_int (i : Int) : okD 0 (.int i) := ⟨by simp only [PyData.canLay0], by simp only [PyData.depth]; omega⟩
theorem okD_bool (i : Bool) : okD 0 (.bool i) := ⟨by simp only [PyData.canLay0], by simp only [PyData.depth]; omega⟩
theorem okD_none : okD 0 .none := ⟨by simp only [PyData.canLay0], by simp only [PyData.depth]; omega⟩
theorem okD_ints (l : List Int) : okD 1 (.list (l.map PyData.int)) := okD_list fun d h => by
  obtain ⟨i, _, rfl⟩ := List.mem_map.mp h
  exact okD_int i
theorem okD.shaped {n : Nat} {d : PyData} (h : okD n d) (l : n ≤ 64) : SeqAt.shaped d = true := by
  show (d.canLay0 && decide (d.depth ≤ 64)) = true
  rw [h.1, decide_eq_true (Nat.le_trans h.2 l)]
  rfl
theorem okD_strs : okD 0 (.str "takes") ∧ okD 0 (.str "reads") ∧ okD 0 (.str "ends") ∧ okD 0 (.str "links") ∧ okD 0 (.str "marks") ∧ okD 0 (.str "looks") ∧ okD 0 (.str "follows") ∧ okD 0 (.str "exchanges") ∧ okD 0 (.str "misses") ∧ okD 0 (.str "rests") ∧ okD 0 (.str "done") := by
  unfold okD
  decide +kernel
def ansD : Ans → PyData
  | .non => .none
  | .done => .str "done"
  | .val v => .int v
def tellDs : Tell → List PyData
  | .rests => [.str "rests"]
  | .takes c => [.str "takes", .int c]
  | .reads t => [.str "reads", .int t]
  | .ends a => [.str "ends", ansD a]
  | .links t => [.str "links", .int t]
  | .marks c => [.str "marks", .int c]
  | .looks b => [.str "looks", .bool b]
  | .follows n => [.str "follows", .int n]
  | .exchanges n => [.str "exchanges", .int n]
  | .misses => [.str "misses"]
def tellD (t : Tell) : PyData := .tuple (tellDs t)
theorem ansDp {K : PySem.W.Frag} {H : Hp} : ∀ a : Ans, Dp K H (ansV a) (ansD a)
  | .non => .non
  | .done => .str _
  | .val v => .int v
theorem tellDsDp {K : PySem.W.Frag} {H : Hp} : ∀ t : Tell, DpAll K H (tellVs t) (tellDs t)
  | .rests => .cons (.str _) .nil
  | .takes c => .cons (.str _) (.cons (.int _) .nil)
  | .reads c => .cons (.str _) (.cons (.int _) .nil)
  | .ends c => .cons (.str _) (.cons (ansDp _) .nil)
  | .links c => .cons (.str _) (.cons (.int _) .nil)
  | .marks c => .cons (.str _) (.cons (.int _) .nil)
  | .looks c => .cons (.str _) (.cons (.bl _) .nil)
  | .follows c => .cons (.str _) (.cons (.int _) .nil)
  | .exchanges c => .cons (.str _) (.cons (.int _) .nil)
  | .misses => .cons (.str _) .nil
theorem TellAt.dp {K : PySem.W.Frag} {H : Hp} {v : V} {t : Tell} (h : TellAt H v t) : Dp K H v (tellD t) := by
  obtain ⟨q, rfl, h⟩ := h
  exact .tup (SqT.of h) (tellDsDp t)
theorem okD_ans (a : Ans) : okD 0 (ansD a) := by
  cases a
  · exact okD_none
  · exact okD_strs.2.2.2.2.2.2.2.2.2.2
  · exact okD_int _
theorem okD_tell (t : Tell) : okD 1 (tellD t) := by
  obtain ⟨a, b, c, d, e, f, g, h, i, j, k⟩ := okD_strs
  refine okD_tup fun x hx => ?_
  cases t <;> simp only [tellDs, List.mem_cons, List.not_mem_nil, or_false] at hx
  · rw [hx]; exact j
  · rcases hx with rfl | rfl
    · exact a
    · exact okD_int _
  · rcases hx with rfl | rfl
    · exact b
    · exact okD_int _
  · rcases hx with rfl | rfl
    · exact c
    · exact okD_ans _
  · rcases hx with rfl | rfl
    · exact d
    · exact okD_int _
  · rcases hx with rfl | rfl
    · exact e
    · exact okD_int _
  · rcases hx with rfl | rfl
    · exact f
    · exact okD_bool _
  · rcases hx with rfl | rfl
    · exact g
    · exact okD_int _
  · rcases hx with rfl | rfl
    · exact h
    · exact okD_int _
  · rw [hx]; exact i
theorem okD_tells (ts : List Tell) : okD 2 (.list (ts.map tellD)) := okD_list fun d h => by
  obtain ⟨t, _, rfl⟩ := List.mem_map.mp h
  exact okD_tell t
theorem tells_dp {K : PySem.W.Frag} {H : Hp} {us : List V} {ts : List Tell} (h : All2 (TellAt H) us ts) : DpAll K H us (ts.map tellD) := dp_of (R := TellAt H) (f := tellD) (fun _ _ h => h.dp) h
/-- two that are the same are not different -/
theorem ne_same {K : PySem.W.Frag} {x y : V} {d : PyData} {H : Hp} {Q : VK} (h1 : Dp K H x d) (h2 : Dp K H y d) {n : Nat} (s : okD n d) (l : n ≤ 64) (q : Q (.bl false) H) : rNeD K x y H Q := by
  refine ⟨d, d, h1, h2, s.shaped l, s.shaped l, ?_⟩
  rw [SeqAt.eqv_refl d s.1]
  exact q
theorem eq_same {K : PySem.W.Frag} {x y : V} {d : PyData} {H : Hp} {Q : VK} (h1 : Dp K H x d) (h2 : Dp K H y d) {n : Nat} (s : okD n d) (l : n ≤ 64) (q : Q (.bl true) H) : rEqD K x y H Q := by
  refine ⟨d, d, h1, h2, s.shaped l, s.shaped l, ?_⟩
  rw [SeqAt.eqv_refl d s.1]
  exact q
theorem cut_take {xs : List V} (n : Nat) : cutV xs none (some (n : Int)) = xs.take n := by
  unfold cutV
  rw [HT.sIx_none, HT.sIx_nat, List.drop_zero, Nat.sub_zero]
  by_cases h : n ≤ xs.length
  · rw [Nat.min_eq_left h]
  · rw [Nat.min_eq_right (by omega), List.take_length, List.take_of_length_le (by omega)]

/-! ### what is drawn -/
structure CaseAt (Z : Cs) (H : Hp) (lv lp lr lw : Addr) (values : List Int) (ps : List (List Deed)) (r : Rule) (w : List Nat) : Prop where
  hv : H lv = some (.lst (values.map V.int))
  hp : PgAt H lp ps
  hr : RuleAt H lr r
  hw : H lw = some (.lst (w.map natV))
  ok : okIn values ps r
  hh : ∀ h ∈ w, h < ps.length
  wl : w.length ≤ 200
def sp_L_case (Z : Cs) : Sp := fun vs H Q _ => ∃ (d : Addr), vs = [.ref d] ∧ DiceAt Z.K H d ∧
  ∀ t lv lp lr lw values ps r w H', Chg (Dc d) H H' → DiceAt Z.K H' d → H' t = some (.tup [.ref lv, .ref lp, .ref lr, .ref lw]) → CaseAt Z H' lv lp lr lw values ps r w → lv ≠ d → lw ≠ d → Q (.ref t) H'
theorem CaseAt.dice {Z : Cs} {H H' : Hp} {d lv lp lr lw : Addr} {values : List Int} {ps : List (List Deed)} {r : Rule} {w : List Nat} (x : CaseAt Z H lv lp lr lw values ps r w) (c : Chg (Dc d) H H') (y : DiceAt Z.K H d) (n1 : lv ≠ d) (n2 : lw ≠ d) : CaseAt Z H' lv lp lr lw values ps r w :=
  ⟨c.ne x.hv n1, x.hp.dice c y, x.hr.mono c.tup, c.ne x.hw n2, x.ok, x.hh, x.wl⟩
theorem CaseAt.same {Z : Cs} {H H' : Hp} {lv lp lr lw : Addr} {values : List Int} {ps : List (List Deed)} {r : Rule} {w : List Nat} (x : CaseAt Z H lv lp lr lw values ps r w) (c : Same H H') : CaseAt Z H' lv lp lr lw values ps r w :=
  ⟨c _ _ x.hv, x.hp.same c, x.hr.mono fun b xs e => c _ _ e, c _ _ x.hw, x.ok, x.hh, x.wl⟩
theorem PgAt.progs {K : PySem.W.Frag} {H : Hp} {l : Addr} {ps : List (List Deed)} (h : PgAt H l ps) : ProgsAt K H l ps := let ⟨us, h1, h2⟩ := h; ⟨us, SqL.of h1, h2⟩
/-- _law_case: 0 _law_d, 1 _law_values_here, 2 _law_programs_here -/
def t_L_case (Z : Cs) : TS :=
  tSeq (tAsg (tCall (sp_L_values Z) [] E0 (tCons (tVar 0) (tCons (tC (.int 6)) tNil))) (gName 1))
    (tSeq (tAsg (tCall (sp_L_programs Z) [] E0 (tCons (tVar 0) (tCons (tC (.int 3)) (tCons (tC (.int 4)) tNil)))) (gName 2))
    ((tRet (tTup (tCons (tVar 1) (tCons (tVar 2) (tCons (tCall (sp_L_rule Z) [] E0 (tCons (tVar 0) (tCons (tCB (rLen1 Z.K) (tCons (tVar 2) tNil)) tNil))) (tCons (tSl (rSlL Z.K) (tCall (sp_L_weaving Z) [] E0 (tCons (tVar 0) (tCons (tCB (rLen1 Z.K) (tCons (tVar 2) tNil)) (tCons (tC (.int 40)) tNil)))) tNoPart (tPart (tC (.int 200)))) tNil))))))))

theorem pure_L_case {Z : Cs} (vs : List V) (H : Hp) (Q : VK) (E : XK) (h : sp_L_case Z vs H Q E) : t_L_case Z { nx := fun _ H' => Q .non H', rt := Q } (start ["_law_d", "_law_values_here", "_law_programs_here"] vs) H := by
  obtain ⟨d, rfl, x, q⟩ := h
  unfold t_L_case
  walk_at "q"
  refine s_asg_of (s_call (ea_cons (ev_var rfl) (ea_cons (ev_N 6 rfl) ea_nil)) ⟨d, 6, rfl, x, by decide, fun lv values H1 f1 c1 x1 hv l1 ov => ?_⟩)
  show ({ nx := _, rt := Q : Ends }).nx _ _
  have n1 : lv ≠ d := x.ne f1
  walk_at "q"
  refine s_asg_of (s_call (ea_cons (ev_var rfl) (ea_cons (ev_N 3 rfl) (ea_cons (ev_N 4 rfl) ea_nil))) ⟨d, 3, 4, rfl, x1, by decide, by decide, by decide, fun lp ps H2 f2 c2 x2 hp l2 l3 l4 od => ?_⟩)
  show ({ nx := tRet _ _, rt := Q : Ends }).nx _ _
  dsimp only
  have hv2 := c2.ne hv n1
  have lenP : ∀ H', PgAt H' lp ps → ∀ s : L2.St, s[2]? = some (some (.ref lp)) → Ev (tCB (rLen1 Z.K) (tCons (tVar 2) tNil)) s H' (.int ps.length) := fun H' ⟨us, h1, h2⟩ s hs => by
    have := h2.length
    rw [← this]
    exact ev_lenL (ev_var hs) (SqL.of h1)
  refine s_ret_of (t_tup_of (t_cons_of (ev_var rfl _ (t_cons_of (ev_var rfl _ (t_cons_of (s_call (ea_cons (ev_var rfl) (ea_cons (lenP _ hp _ rfl) ea_nil)) ⟨d, ps.length, rfl, x2, by omega, fun lr r H3 c3 x3 hr or => ?_⟩)))))))
  have hv3 := c3.ne hv2 n1
  have hp3 := hp.dice c3 x2
  refine t_cons_of (s_call (ea_cons (ev_var rfl) (ea_cons (lenP _ hp3 _ rfl) (ea_cons (ev_N 40 rfl) ea_nil))) ⟨d, ps.length, 40, rfl, x3, by omega, by omega, by decide, by decide, fun lw w H4 f4 c4 x4 hw hh wl => ?_⟩)
  refine ⟨200, rfl, lw, _, rfl, SqL.of hw, fun p hpn => ?_⟩
  have ec : cutV (w.map natV) none (some 200) = (w.map natV).take 200 := cut_take 200
  rw [ec]
  have S5 : Same H4 (upd H4 p (.lst ((w.map natV).take 200))) := Same.new hpn
  refine ⟨by show 4 ≤ sizeLine; decide, fun t ht => ?_⟩
  have S6 : Same (upd H4 p (.lst ((w.map natV).take 200))) (upd (upd H4 p (.lst ((w.map natV).take 200))) t (.tup [.ref lv, .ref lp, .ref lr, .ref p])) := Same.new ht
  have np : p ≠ d := x4.ne hpn
  refine q t lv lp lr p values ps r (w.take 200) _ (((c1.trans c2).trans (c3.trans c4)).trans (Chg.same (Same.trans S5 S6))) (x4.same (Same.trans S5 S6)) upd_same ⟨S6 _ _ (S5 _ _ (c4.ne hv3 n1)), (hp3.dice c4 x3).same (Same.trans S5 S6), hr.mono fun b xs e => S6 _ _ (S5 _ _ (c4.tup _ _ e)), ?_, ?_, ?_, ?_⟩ n1 np
  · have : (upd H4 p (.lst ((w.map natV).take 200))) p = some (.lst ((w.map natV).take 200)) := upd_same
    rw [← List.map_take] at this
    rw [← List.map_take]
    rw [← List.map_take] at S6
    exact S6 _ _ this
  · exact ⟨l1, ov, ⟨l2, l3⟩, l4, od, or⟩
  · exact fun h hm => hh h (List.mem_of_mem_take hm)
  · rw [List.length_take]
    omega
end SS

set_option Elab.async false
set_option linter.all false
set_option maxRecDepth 100000
set_option maxHeartbeats 4000000
namespace SS
open PySem L2
local macro_rules | `(tactic| walk_at "q") => `(tactic| ((try dsimp only); refine s_seq ?_))

def saidD (x : Hd) : PyData := .list (x.said.map ansD)
def pairD (p : Nat × Nat) : PyData := .tuple [.int p.1, .int p.2]
def natsD (l : List Nat) : PyData := .list ((l.map Int.ofNat).map PyData.int)
def orderD (m : M) : PyData := .list (m.ends.map pairD)
/-- how a machine stands -/
def standL (m : M) : List PyData := (m.hands.map saidD ++ (m.hands.map fun x : Hd => (Int.ofNat x.mark)).map PyData.int) ++ [orderD m, .tuple [.int m.top, .int m.count], natsD m.links, natsD m.freed, natsD m.pile] ++ [.list (m.pileValues.map PyData.int), .bool m.strayed, .bool m.isDone]
def standD (m : M) : PyData := .list (standL m)
theorem okD_said (x : Hd) : okD 1 (saidD x) := okD_list fun d h => by
  obtain ⟨a, _, rfl⟩ := List.mem_map.mp h
  exact okD_ans a
theorem okD_pair (p : Nat × Nat) : okD 1 (pairD p) := okD_tup fun d h => by
  simp only [List.mem_cons, List.not_mem_nil, or_false] at h
  rcases h with rfl | rfl
  · exact okD_int _
  · exact okD_int _
theorem okD_order (l : List (Nat × Nat)) : okD 2 (.list (l.map pairD)) := okD_list fun d h => by
  obtain ⟨a, _, rfl⟩ := List.mem_map.mp h
  exact okD_pair a
theorem okD_stand (m : M) : okD 3 (standD m) := okD_list fun d h => by
  unfold standL at h
  simp only [List.mem_append, List.mem_cons, List.not_mem_nil, or_false] at h
  rcases h with ((h | h) | h) | h
  · obtain ⟨a, _, rfl⟩ := List.mem_map.mp h
    exact (okD_said a).mono (by decide)
  · obtain ⟨a, _, rfl⟩ := List.mem_map.mp h
    exact (okD_int _).mono (by decide)
  · rcases h with rfl | rfl | rfl | rfl | rfl
    · exact okD_order _
    · exact (okD_pair (m.top, m.count)).mono (by decide)
    · exact (okD_ints _).mono (by decide)
    · exact (okD_ints _).mono (by decide)
    · exact (okD_ints _).mono (by decide)
  · rcases h with rfl | rfl | rfl
    · exact (okD_ints _).mono (by decide)
    · exact (okD_bool _).mono (by decide)
    · exact (okD_bool _).mono (by decide)
theorem nats_map (l : List Nat) : l.map natV = (l.map Int.ofNat).map V.int := by
  rw [List.map_map]
  rfl
theorem natsDp {K : PySem.W.Frag} {H : Hp} {a : Addr} {l : List Nat} (h : H a = some (.lst (l.map natV))) : Dp K H (.ref a) (natsD l) := by
  rw [nats_map] at h
  exact .lst (SqL.of h) (dp_ints _)
theorem saidDp {K : PySem.W.Frag} {H : Hp} {a : Addr} {x : Hd} (h : H a = some (.lst (x.said.map ansV))) : Dp K H (.ref a) (saidD x) := by
  refine .lst (SqL.of h) ?_
  generalize x.said = l
  induction l with
  | nil => exact .nil
  | cons a l ih => exact .cons (ansDp a) ih
theorem saidsDp {K : PySem.W.Frag} {H : Hp} : ∀ {as : List Addr} {hs : List Hd}, All2 (fun (a : Addr) (x : Hd) => H a = some (.lst (x.said.map ansV))) as hs → DpAll K H (as.map V.ref) (hs.map saidD)
  | _, _, .nil => .nil
  | _, _, .cons a b => .cons (saidDp a) (saidsDp b)
theorem PairAt.dp {K : PySem.W.Frag} {H : Hp} {v : V} {p : Nat × Nat} (h : PairAt H v p) : Dp K H v (pairD p) := by
  obtain ⟨q, rfl, h⟩ := h
  exact .tup (SqT.of h) (.cons (.int _) (.cons (.int _) .nil))
theorem orderDp {K : PySem.W.Frag} {H : Hp} {a : Addr} {us : List V} {l : List (Nat × Nat)} (h : H a = some (.lst us)) (hu : All2 (PairAt H) us l) : Dp K H (.ref a) (.list (l.map pairD)) :=
  .lst (SqL.of h) (dp_of (R := PairAt H) (f := pairD) (fun _ _ h => h.dp) hu)
def sp_L_stand (Z : Cs) : Sp := fun vs H Q _ => ∃ (A : MA) (m : M) (n : Nat), vs = [.ref A.p, .int n] ∧ MachAt Z H A m ∧ n = m.hands.length ∧ n ≤ 3 ∧ PileOk m ∧ ∀ v H', Same H H' → Dp Z.K H' v (standD m) → Q v H'
/-- _law_stand: 0 _law_machine, 1 _law_hands, 2 _law_found, 3 _law_hand -/
def t_L_stand (Z : Cs) : TS :=
  tSeq (tAsg (tOp rCat (tLc (iRng1 (tCons (tVar 1) tNil)) (gName 3) tYes (tMeth Z.M "answers" (sp_M_answers Z) [] E0 (tVar 0) (tCons (tVar 3) tNil)) [3]) (tLc (iRng1 (tCons (tVar 1) tNil)) (gName 3) tYes (tMeth Z.M "marked" (sp_M_marked Z) [] E0 (tVar 0) (tCons (tVar 3) tNil)) [3])) (gName 2))
    (tSeq (tAsg (tOp rCat (tVar 2) (tLst (tCons (tMeth Z.M "order" (sp_M_order Z) [] E0 (tVar 0) tNil) (tCons (tMeth Z.M "top_now" (sp_M_top_now Z) [] E0 (tVar 0) tNil) (tCons (tMeth Z.M "nexts" (sp_M_nexts Z) [] E0 (tVar 0) tNil) (tCons (tMeth Z.M "free" (sp_M_free Z) [] E0 (tVar 0) tNil) (tCons (tMeth Z.M "pile" (sp_M_pile Z) [] E0 (tVar 0) tNil) tNil))))))) (gName 2))
    ((tRet (tOp rCat (tVar 2) (tLst (tCons (tMeth Z.M "pile_values" (sp_M_pile_values Z) [] E0 (tVar 0) tNil) (tCons (tMeth Z.M "is_stale" (sp_M_is_stale Z) [] E0 (tVar 0) tNil) (tCons (tMeth Z.M "is_done" (sp_M_is_done Z) [] E0 (tVar 0) tNil) tNil))))))))

theorem pure_L_stand {Z : Cs} (vs : List V) (H : Hp) (Q : VK) (E : XK) (h : sp_L_stand Z vs H Q E) : t_L_stand Z { nx := fun _ H' => Q .non H', rt := Q } (start ["_law_machine", "_law_hands", "_law_found", "_law_hand"] vs) H := by
  obtain ⟨A, m, n, rfl, T, hn, h3, pk, q⟩ := h
  unfold t_L_stand
  walk_at "q"
  refine s_asg_of (t_op_of (e_lcR (n := n) (ev_var rfl) (by omega) (fun D i H' => Same H H' ∧ ∃ as : List Addr, H' D = some (.lst (as.map V.ref)) ∧ All2 (fun (a : Addr) (x : Hd) => H' a = some (.lst (x.said.map ansV))) as (m.hands.take i) ∧ ∀ a ∈ as, a ≠ D)
    (fun D hD => ⟨Same.new hD, [], upd_same, by rw [List.take_zero]; exact .nil, fun _ h => by cases h⟩) (fun D i H' hi hD p => ?_) (fun D H1 hD p => ?_)))
  · obtain ⟨s3, as, hL, ha, fr⟩ := p
    have T4 := T.same s3
    obtain ⟨a, hah⟩ := T4.hand_of (i := i) (by omega)
    refine ⟨rfl, et_yes _ (iteT (s_meth (ev_var rfl) T4.obj (mf_no _ _ _ (by simp)) (ea_cons (ev_var rfl) ea_nil) ⟨A, m, i, a, rfl, T4, hah, fun l hl => ?_⟩))⟩
    have lD : l ≠ D := fun z => by rw [z, hL] at hl; cases hl
    have hi2 : m.hands[i]? = some (m.hd i) := by
      unfold M.hd
      rw [List.getD_eq_getElem?_getD, List.getElem?_eq_getElem (by omega)]
      rfl
    have hal := ha.length
    rw [List.length_take] at hal
    refine ⟨as.map V.ref, by rw [upd_ne lD.symm]; exact hL, ?_, ?_, as ++ [l], ?_, ?_, ?_⟩
    · rw [List.length_map, hal]
      exact Nat.lt_of_le_of_lt (by omega : _ ≤ 3) (by decide)
    · exact same_newer (fun b o e => Same.new hl _ _ (s3 b o e)) hD
    · rw [List.map_append]
      exact upd_same
    · rw [take_snoc hi2]
      refine (All2.mono2 (fun a x hm e => ?_) ha).snoc ?_
      · rw [upd_ne (fr a hm), upd_ne (fun z => by rw [z, hl] at e; cases e)]
        exact e
      · rw [upd_ne lD, upd_same]
    · intro b hb
      rcases List.mem_append.mp hb with h | h
      · exact fr b h
      · have hb' : b = l := by simpa using h
        subst hb'
        exact lD
  · obtain ⟨s1, as, hL, ha, _⟩ := p
    rw [hn, List.take_length] at ha
    have T1 := T.same s1
    have all := ha.length
    refine e_lcR (n := n) (ev_var rfl) (by omega) (fun D2 i H' => Same H1 H' ∧ H' D2 = some (.lst ((m.hands.take i).map fun x : Hd => natV x.mark)))
      (fun D2 hD => ⟨Same.new hD, by rw [List.take_zero]; exact upd_same⟩) (fun D2 i H' hi hD2 p => ?_) (fun D2 H2 hD2 p => ?_)
    · obtain ⟨s3, hL2⟩ := p
      have T4 := T1.same s3
      obtain ⟨a, hah⟩ := T4.hand_of (i := i) (by omega)
      have hi2 : m.hands[i]? = some (m.hd i) := by
        unfold M.hd
        rw [List.getD_eq_getElem?_getD, List.getElem?_eq_getElem (by omega)]
        rfl
      refine ⟨rfl, et_yes _ (iteT (s_meth (ev_var rfl) T4.obj (mf_no _ _ _ (by simp)) (ea_cons (ev_var rfl) ea_nil) ⟨A, m, i, a, rfl, T4, hah, ⟨_, hL2, ?_, same_newer s3 hD2, ?_⟩⟩))⟩
      · rw [List.length_map, List.length_take]
        exact Nat.lt_of_le_of_lt (by omega : _ ≤ 3) (by decide)
      · rw [take_snoc hi2, List.map_append]
        exact upd_same
    · obtain ⟨s2, hL2⟩ := p
      rw [hn, List.take_length] at hL2
      have T2 := T1.same s2
      have d1 : DpAll Z.K H2 (as.map V.ref) (m.hands.map saidD) := dpAll_same s2 _ _ (saidsDp ha)
      have e2 : (m.hands.map fun x : Hd => natV x.mark) = (m.hands.map fun x : Hd => (Int.ofNat x.mark)).map V.int := by
        rw [List.map_map]
        rfl
      refine ⟨D, D2, _, _, rfl, rfl, s2 _ _ hL, hL2, ?_, fun p hp => ?_⟩
      · rw [List.length_map, List.length_map, all]
        exact Nat.le_trans (by omega : _ ≤ 6) (by decide)
      show ({ nx := _, rt := Q : Ends }).nx _ _
      have sp : Same H2 (upd H2 p (.lst (as.map V.ref ++ m.hands.map fun x : Hd => natV x.mark))) := Same.new hp
      have hP : (upd H2 p (.lst (as.map V.ref ++ m.hands.map fun x : Hd => natV x.mark))) p = some (.lst (as.map V.ref ++ m.hands.map fun x : Hd => natV x.mark)) := upd_same
      have mk2 : ∀ H' : Hp, DpAll Z.K H' (m.hands.map fun x : Hd => natV x.mark) ((m.hands.map fun x : Hd => (Int.ofNat x.mark)).map PyData.int) := fun H' => by
        rw [e2]
        exact dp_ints _
      have d2 := dp_append (dpAll_same sp _ _ d1) (mk2 _)
      have T3 := T2.same sp
      have S3 : Same H (upd H2 p (.lst (as.map V.ref ++ m.hands.map fun x : Hd => natV x.mark))) := Same.trans s1 (Same.trans s2 sp)
      have lenU : (as.map V.ref ++ m.hands.map fun x : Hd => natV x.mark).length ≤ 6 := by
        rw [List.length_append, List.length_map, List.length_map, all]
        omega
      generalize (as.map V.ref ++ m.hands.map fun x : Hd => natV x.mark) = us at hP d2 T3 S3 lenU
      generalize upd H2 p (.lst us) = H3 at hP d2 T3 S3
      clear sp d1 hL2 hL
      walk_at "q"
      refine s_asg_of (t_op_of (ev_var rfl _ (t_lst_of (t_cons_of (s_meth (ev_var rfl) T3.obj (mf_no _ _ _ (by simp)) ea_nil ⟨A, m, rfl, T3, fun l1 u1 hl1 hu1 => ?_⟩)))))
      have k1 : Same H3 (upd H3 l1 (.lst u1)) := Same.new hl1
      have D1 : Dp Z.K (upd H3 l1 (.lst u1)) (.ref l1) (orderD m) := orderDp upd_same (hu1.mono fun _ _ => PairAt.mono fun b xs e => k1 _ _ e)
      generalize upd H3 l1 (.lst u1) = H4 at k1 D1 ⊢
      have T4 := T3.same k1
      refine t_cons_of (s_meth (ev_var rfl) T4.obj (mf_no _ _ _ (by simp)) ea_nil ⟨A, m, rfl, T4, fun l2 hl2 => ?_⟩)
      have k2 : Same H4 (upd H4 l2 (.tup [natV m.top, natV m.count])) := Same.new hl2
      have D2 : Dp Z.K (upd H4 l2 (.tup [natV m.top, natV m.count])) (.ref l2) (.tuple [.int m.top, .int m.count]) := .tup (SqT.of upd_same) (.cons (.int _) (.cons (.int _) .nil))
      generalize upd H4 l2 (.tup [natV m.top, natV m.count]) = H5 at k2 D2 ⊢
      have T5 := T4.same k2
      refine t_cons_of (s_meth (ev_var rfl) T5.obj (mf_no _ _ _ (by simp)) ea_nil ⟨A, m, rfl, T5, fun l3 hl3 => ?_⟩)
      have k3 : Same H5 (upd H5 l3 (.lst (m.links.map natV))) := Same.new hl3
      have D3 : Dp Z.K (upd H5 l3 (.lst (m.links.map natV))) (.ref l3) (natsD m.links) := natsDp upd_same
      generalize upd H5 l3 (.lst (m.links.map natV)) = H6 at k3 D3 ⊢
      have T6 := T5.same k3
      refine t_cons_of (s_meth (ev_var rfl) T6.obj (mf_no _ _ _ (by simp)) ea_nil ⟨A, m, rfl, T6, fun l4 hl4 => ?_⟩)
      have k4 : Same H6 (upd H6 l4 (.lst (m.freed.map natV))) := Same.new hl4
      have D4 : Dp Z.K (upd H6 l4 (.lst (m.freed.map natV))) (.ref l4) (natsD m.freed) := natsDp upd_same
      generalize upd H6 l4 (.lst (m.freed.map natV)) = H7 at k4 D4 ⊢
      have T7 := T6.same k4
      refine t_cons_of (s_meth (ev_var rfl) T7.obj (mf_no _ _ _ (by simp)) ea_nil ⟨A, m, rfl, T7, pk, fun l5 H8 hl5 k5 e5 => ?_⟩)
      have D5 : Dp Z.K H8 (.ref l5) (natsD m.pile) := natsDp e5
      have T8 := T7.same k5
      refine ⟨by show 5 ≤ sizeLine; decide, fun p2 hp2 => ?_⟩
      have k6 : Same H8 (upd H8 p2 (.lst [.ref l1, .ref l2, .ref l3, .ref l4, .ref l5])) := Same.new hp2
      have K35 : Same H3 H8 := Same.trans k1 (Same.trans k2 (Same.trans k3 (Same.trans k4 k5)))
      have hP2 := k6 _ _ (K35 _ _ hP)
      have T9 := T8.same k6
      refine ⟨p, p2, us, _, rfl, rfl, hP2, upd_same, Nat.le_trans (by show us.length + 5 ≤ 11; omega) (by decide), fun p3 hp3 => ?_⟩
      have A5 : DpAll Z.K (upd H8 p2 (.lst [.ref l1, .ref l2, .ref l3, .ref l4, .ref l5])) [.ref l1, .ref l2, .ref l3, .ref l4, .ref l5] [orderD m, .tuple [.int m.top, .int m.count], natsD m.links, natsD m.freed, natsD m.pile] :=
        dpAll_same k6 _ _ (.cons (dp_same (Same.trans k2 (Same.trans k3 (Same.trans k4 k5))) _ _ D1) (.cons (dp_same (Same.trans k3 (Same.trans k4 k5)) _ _ D2) (.cons (dp_same (Same.trans k4 k5) _ _ D3) (.cons (dp_same k5 _ _ D4) (.cons D5 .nil)))))
      have A6 := dp_append (dpAll_same (Same.trans K35 k6) _ _ d2) A5
      have S8 : Same H (upd H8 p2 (.lst [.ref l1, .ref l2, .ref l3, .ref l4, .ref l5])) := Same.trans S3 (Same.trans K35 k6)
      have k7 : Same (upd H8 p2 (.lst [.ref l1, .ref l2, .ref l3, .ref l4, .ref l5])) (upd (upd H8 p2 (.lst [.ref l1, .ref l2, .ref l3, .ref l4, .ref l5])) p3 (.lst (us ++ [.ref l1, .ref l2, .ref l3, .ref l4, .ref l5]))) := Same.new hp3
      have hP3 : (upd (upd H8 p2 (.lst [.ref l1, .ref l2, .ref l3, .ref l4, .ref l5])) p3 (.lst (us ++ [.ref l1, .ref l2, .ref l3, .ref l4, .ref l5]))) p3 = some (.lst (us ++ [.ref l1, .ref l2, .ref l3, .ref l4, .ref l5])) := upd_same
      show ({ nx := tRet _ _, rt := Q : Ends }).nx _ _
      dsimp only
      have A7 := dpAll_same k7 _ _ A6
      have TA := T9.same k7
      have SA := Same.trans S8 k7
      generalize upd (upd H8 p2 (.lst [.ref l1, .ref l2, .ref l3, .ref l4, .ref l5])) p3 (.lst (us ++ [.ref l1, .ref l2, .ref l3, .ref l4, .ref l5])) = H9 at hP3 A7 TA SA ⊢
      refine s_ret_of (t_op_of (ev_var rfl _ (t_lst_of (t_cons_of (s_meth (ev_var rfl) TA.obj (mf_no _ _ _ (by simp)) ea_nil ⟨A, m, rfl, TA, pk, fun l6 HA hl6 k8 e8 => ?_⟩)))))
      have TB := TA.same k8
      refine t_cons_of (s_meth (ev_var rfl) TB.obj (mf_no _ _ _ (by simp)) ea_nil ⟨A, m, rfl, TB, ?_⟩)
      refine t_cons_of (s_meth (ev_var rfl) TB.obj (mf_no _ _ _ (by simp)) ea_nil ⟨A, m, rfl, TB, by omega, fun HB k9 => ?_⟩)
      refine ⟨by show 3 ≤ sizeLine; decide, fun p4 hp4 => ?_⟩
      have ka : Same HB (upd HB p4 (.lst [.ref l6, .bl m.strayed, .bl m.isDone])) := Same.new hp4
      refine ⟨p3, p4, _, _, rfl, rfl, ka _ _ (k9 _ _ (k8 _ _ hP3)), upd_same, Nat.le_trans (by rw [List.length_append]; show us.length + 5 + 3 ≤ 14; omega) (by decide), fun p5 hp5 => ?_⟩
      have kb : Same (upd HB p4 (.lst [.ref l6, .bl m.strayed, .bl m.isDone])) (upd (upd HB p4 (.lst [.ref l6, .bl m.strayed, .bl m.isDone])) p5 (.lst ((us ++ [.ref l1, .ref l2, .ref l3, .ref l4, .ref l5]) ++ [.ref l6, .bl m.strayed, .bl m.isDone]))) := Same.new hp5
      have D6 : Dp Z.K HA (.ref l6) (.list (m.pileValues.map PyData.int)) := .lst (SqL.of e8) (dp_ints _)
      refine q _ _ (Same.trans SA (Same.trans k8 (Same.trans k9 (Same.trans ka kb)))) (.lst (SqL.of upd_same) (dp_append (dpAll_same (Same.trans k8 (Same.trans k9 (Same.trans ka kb))) _ _ A7) (.cons (dp_same (Same.trans k9 (Same.trans ka kb)) _ _ D6) (.cons (.bl _) (.cons (.bl _) .nil)))))
end SS

set_option Elab.async false
set_option linter.all false
set_option maxRecDepth 100000
set_option maxHeartbeats 4000000
namespace SS
open PySem L2
local macro_rules | `(tactic| walk_at "q") => `(tactic| ((try dsimp only); refine s_seq ?_))

/-! ### steps told, by parts -/
theorem tells_get {h : Nat} : ∀ {w : List Nat} {m : M} {k : Nat}, w[k]? = some h → (m.tells w)[k]? = some ((m.run (w.take k)).turn h).1
  | [], m, k, e => by cases k <;> cases e
  | x :: w, m, 0, e => by
    have : x = h := by simpa using e
    subst this
    rfl
  | x :: w, m, k + 1, e => by
    have e' : w[k]? = some h := by simpa using e
    exact tells_get (w := w) (m := m.step x) e'
theorem tells_take : ∀ (n : Nat) (w : List Nat) (m : M), (m.tells w).take n = m.tells (w.take n)
  | 0, w, m => by rw [List.take_zero, List.take_zero]; rfl
  | n + 1, [], m => rfl
  | n + 1, x :: w, m => congrArg ((m.turn x).1 :: ·) (tells_take n w (m.step x))
theorem step_ends (m : M) (h : Nat) : ∃ l, (m.step h).ends = m.ends ++ l := by
  have z : ∀ l : List (Nat × Nat), l = m.ends → ∃ l', l = m.ends ++ l' := fun l e => ⟨[], by rw [e, List.append_nil]⟩
  unfold M.step M.turn
  split
  · exact z _ rfl
  · split
    · cases hp : pick m.rule m.marked m.freed with
      | some c =>
        rw [taken_some hp]
        exact z _ rfl
      | none =>
        rw [taken_none hp]
        exact z _ rfl
    · split
      · unfold M.read
        split
        · exact ⟨[_], rfl⟩
        · exact z _ rfl
      · unfold M.push
        split
        · exact z _ rfl
        · split
          · exact ⟨[_], rfl⟩
          · exact z _ rfl
  · split
    · unfold M.read
      split
      · exact ⟨[_], rfl⟩
      · exact z _ rfl
    · unfold M.pop M.guard
      split
      · exact z _ rfl
      · split
        · split
          · exact z _ rfl
          · split <;> exact z _ rfl
        · split
          · exact z _ rfl
          · split
            · exact ⟨[_], rfl⟩
            · exact z _ rfl
theorem run_ends : ∀ (w : List Nat) (m : M), ∃ l, (m.run w).ends = m.ends ++ l
  | [], m => ⟨[], (List.append_nil _).symm⟩
  | h :: w, m => by
    obtain ⟨a, ha⟩ := step_ends m h
    obtain ⟨b, hb⟩ := run_ends w (m.step h)
    exact ⟨a ++ b, by rw [← List.append_assoc, ← ha]; exact hb⟩
theorem finish_ends : ∀ (n : Nat) (m : M), ∃ l, (M.finish n m).ends = m.ends ++ l
  | 0, m => ⟨[], (List.append_nil _).symm⟩
  | n + 1, m => by
    unfold M.finish
    split
    · exact ⟨[], (List.append_nil _).symm⟩
    · obtain ⟨a, ha⟩ := run_ends (List.range m.hands.length) m
      obtain ⟨b, hb⟩ := finish_ends n m.round
      exact ⟨a ++ b, by rw [← List.append_assoc, ← ha]; exact hb⟩

/-! ### two machines, apart -/
structure Two (Z : Cs) (H0 H : Hp) (A B : MA) (m n : M) : Prop where
  s : Same H0 H
  a : MachAt Z H A m
  b : MachAt Z H B n
structure Apart (H0 : Hp) (A B : MA) : Prop where
  fa : ∀ a, A.owns a → H0 a = none
  fb : ∀ a, B.owns a → H0 a = none
  n : ∀ a, A.owns a → ¬ B.owns a
theorem Two.same {Z : Cs} {H0 H H' : Hp} {A B : MA} {m n : M} (t : Two Z H0 H A B m n) (c : Same H H') : Two Z H0 H' A B m n := ⟨Same.trans t.s c, t.a.same c, t.b.same c⟩
theorem Two.turnA {Z : Cs} {H0 H H' : Hp} {A B : MA} {m n m' : M} (t : Two Z H0 H A B m n) (p : Apart H0 A B) (T : MachAt Z H' A m') (c : Chg A.owns H H') : Two Z H0 H' A B m' n := ⟨same_own t.s c p.fa, T, t.b.chg c fun a hb ha => p.n a ha hb⟩
theorem Two.turnB {Z : Cs} {H0 H H' : Hp} {A B : MA} {m n n' : M} (t : Two Z H0 H A B m n) (p : Apart H0 A B) (T : MachAt Z H' B n') (c : Chg B.owns H H') : Two Z H0 H' A B m n' := ⟨same_own t.s c p.fb, t.a.chg c fun a ha hb => p.n a ha hb, T⟩
theorem s_par_of {i j : Nat} {ta : TA} {D : Ends} {s : L2.St} {H : Hp} (h : ta s H fun vs H1 => ∃ v w, vs = [v, w] ∧ D.nx ((s.set i (some v)).set j (some w)) H1) : tPar i j ta D s H := h
theorem t_sl_of {r : V → Option Int → Option Int → Hp → VK → Prop} {te tp : TE} {s : L2.St} {H : Hp} {Q : VK} (h : te s H fun x H1 => tp s H1 fun y H2 => ∃ i, y = .int i ∧ r x none (some i) H2 Q) : tSl r te tNoPart (tPart tp) s H Q := h
theorem sl_take {K : PySem.W.Frag} {l : Addr} {xs : List V} {n : Nat} {H : Hp} {Q : VK} (hl : SqL K H l xs) (q : ∀ p, H p = none → Q (.ref p) (upd H p (.lst (xs.take n)))) : rSlL K (.ref l) none (some (n : Int)) H Q := ⟨l, xs, rfl, hl, fun p hp => by rw [cut_take]; exact q p hp⟩
theorem t_slN {K : PySem.W.Frag} {te tp : TE} {s : L2.St} {H : Hp} {Q : VK} {l : Addr} {xs : List V} {n : Nat} (h1 : Ev te s H (.ref l)) (h2 : Ev tp s H (.int n)) (hl : SqL K H l xs) (q : ∀ p, H p = none → Q (.ref p) (upd H p (.lst (xs.take n)))) : tSl (rSlL K) te tNoPart (tPart tp) s H Q :=
  t_sl_of (h1 _ (h2 _ ⟨_, rfl, sl_take hl q⟩))
theorem ne_skip {K : PySem.W.Frag} {x y : V} {d : PyData} {H : Hp} {tu : TS} {D : Ends} {st : L2.St} {n : Nat} (h1 : Dp K H x d) (h2 : Dp K H y d) (s : okD n d) (l : n ≤ 64) (k : D.nx st H) : rNeD K x y H (fun x H1 => ∃ k, x = .bl k ∧ if k = true then tu D st H1 else tNext D st H1) :=
  ne_same h1 h2 s l ⟨false, rfl, iteF k⟩
theorem ev_lenP {Z : Cs} {H : Hp} {n : Nat} {lp : Addr} {ps : List (List Deed)} {s : L2.St} (h : PgAt H lp ps) (hs : s[n]? = some (some (.ref lp))) : Ev (tCB (rLen1 Z.K) (tCons (tVar n) tNil)) s H (.int ps.length) := by
  obtain ⟨us, h1, h2⟩ := h
  rw [← h2.length]
  exact ev_lenL (ev_var hs) (SqL.of h1)
theorem ev_lenW {Z : Cs} {H : Hp} {n : Nat} {lw : Addr} {w : List Nat} {s : L2.St} (h : H lw = some (.lst (w.map natV))) (hs : s[n]? = some (some (.ref lw))) : Ev (tCB (rLen1 Z.K) (tCons (tVar n) tNil)) s H (.int w.length) := by
  have : w.length = (w.map natV).length := List.length_map .. |>.symm
  rw [this]
  exact ev_lenL (ev_var hs) (SqL.of h)
theorem t_or_of {t u : TT} {s : L2.St} {H : Hp} {Q : Bool → Hp → Prop} (h : t s H fun c H1 => if c = true then Q true H1 else u s H1 Q) : tOr t u s H Q := h
theorem t_and_of {t u : TT} {s : L2.St} {H : Hp} {Q : Bool → Hp → Prop} (h : t s H fun c H1 => if c = true then u s H1 Q else Q false H1) : tAnd t u s H Q := h
/-- len(machine.answers(hand)) == len(programs[hand]): whether it rests -/
theorem Fine.said {ps : List (List Deed)} {r : Rule} {m : M} (f : Fine ps r m) (j : Nat) : (m.rests j = true) = ((m.hd j).said.length = (ps.getD j []).length) := by
  have h1 := (f.hand j).said
  have h2 : m.prog j = ps.getD j [] := by
    unfold M.prog
    rw [f.progs]
  apply propext
  unfold M.rests
  rw [beq_iff_eq, h1, h2]
theorem t_lens {Z : Cs} {s : L2.St} {H : Hp} {A : MA} {m : M} {j n1 n2 n3 : Nat} {lp : Addr} {ps : List (List Deed)} {r : Rule} {Q : VK} (f : Fine ps r m) (T : MachAt Z H A m) (hj : j < ps.length) (hp : PgAt H lp ps) (e1 : s[n1]? = some (some (.ref A.p))) (e2 : s[n2]? = some (some (.int j))) (e3 : s[n3]? = some (some (.ref lp)))
    (q : ∀ H', Same H H' → Q (.bl (m.rests j)) H') : tOp rEq (tCB (rLen1 Z.K) (tCons (tMeth Z.M "answers" (sp_M_answers Z) [] E0 (tVar n1) (tCons (tVar n2) tNil)) tNil)) (tCB (rLen1 Z.K) (tCons (tOp (rIxL Z.K) (tVar n3) (tVar n2)) tNil)) s H Q := by
  obtain ⟨a, ha⟩ := T.hand_of (i := j) (by rw [f.hn]; exact hj)
  refine t_op_of (t_cb_of (t_cons_of (s_meth (ev_var e1) T.obj (mf_no _ _ _ (by simp)) (ea_cons (ev_var e2) ea_nil) ⟨A, m, j, a, rfl, T, ha, fun l hl => ⟨l, _, rfl, .inl (SqL.of upd_same), ?_⟩⟩)))
  have k1 : Same H (upd H l (.lst ((m.hd j).said.map ansV))) := Same.new hl
  obtain ⟨us, h1, h2⟩ := hp
  have hg : ps[j]? = some (ps.getD j []) := by
    rw [List.getD_eq_getElem?_getD, List.getElem?_eq_getElem hj]
    rfl
  obtain ⟨u, hu, q', us', rfl, h3, h4⟩ := h2.get j hg
  refine (ev_lenL (ev_ixL (ev_var e3) (ev_var e2) (SqL.of (k1 _ _ h1)) (atI_nat hu)) (SqL.of (k1 _ _ h3))) _ ⟨rfl, ?_⟩
  have e : decide (V.int ((((m.hd j).said.map ansV).length : Nat) : Int) = V.int ((us'.length : Nat) : Int)) = m.rests j := by
    rw [List.length_map, h4.length]
    have := f.said j
    cases er : m.rests j with
    | true =>
      rw [er] at this
      have t : (m.hd j).said.length = (ps.getD j []).length := this ▸ rfl
      rw [t]
      exact decide_eq_true rfl
    | false =>
      rw [er] at this
      refine decide_eq_false fun z => ?_
      have z2 : (m.hd j).said.length = (ps.getD j []).length := by
        have := V.int.inj z
        omega
      rw [← this] at z2
      cases z2
  rw [e]
  exact q _ k1
end SS

set_option Elab.async false
set_option linter.all false
set_option maxRecDepth 100000
set_option maxHeartbeats 4000000
/-! Few deeds. -/
namespace SS
open PySem L2
local macro_rules | `(tactic| walk_at "q") => `(tactic| ((try dsimp only); refine s_seq ?_))
def few (ps : List (List Deed)) : Prop := ∃ a b : List Deed, (ps = [a, b] ∨ ps = [b, a]) ∧ a.length = 1 ∧ 1 ≤ b.length ∧ b.length ≤ 4
def sp_L_few (Z : Cs) : Sp := fun vs H Q _ => ∃ (d : Addr), vs = [.ref d] ∧ DiceAt Z.K H d ∧ ∀ l ps H', H l = none → Chg (Dc d) H H' → DiceAt Z.K H' d → PgAt H' l ps → few ps → (∀ p ∈ ps, ∀ e ∈ p, okDeed e) → Q (.ref l) H'
/-- _law_few: 0 _law_d, 1 _law_one, 2 _law_other -/
def t_L_few (Z : Cs) : TS :=
  tSeq (tAsg (tOp (rIxL Z.K) (tLst (tCons (tLst (tCons (tTup (tCons (tC (.str "pop")) tNil)) tNil)) (tCons (tLst (tCons (tCall (sp_L_deed Z) [] E0 (tCons (tVar 0) tNil)) tNil)) tNil))) (tCB rInt1 (tCons (tOp rEq (tCall (sp_L_next Z) [] E0 (tCons (tVar 0) (tCons (tC (.int 4)) tNil))) (tC (.int 3))) tNil))) (gName 1))
    (tSeq (tAsg (tSl (rSlL Z.K) (tLst (tCons (tTup (tCons (tC (.str "pop")) tNil)) (tCons (tTup (tCons (tC (.str "pop")) tNil)) (tCons (tTup (tCons (tC (.str "push")) (tCons (tCall (sp_L_next Z) [] E0 (tCons (tVar 0) (tCons (tC (.int 100)) tNil))) tNil))) tNil)))) (tPart (tCall (sp_L_next Z) [] E0 (tCons (tVar 0) (tCons (tC (.int 3)) tNil)))) tNoPart) (gName 2))
    (tSeq (tDrop (tBM Z.K "list" rInsert (tVar 2) (tCons (tCall (sp_L_next Z) [] E0 (tCons (tVar 0) (tCons (tOp rAddI (tCB (rLen1 Z.K) (tCons (tVar 2) tNil)) (tC (.int 1))) tNil))) (tCons (tCall (sp_L_deed Z) [] E0 (tCons (tVar 0) tNil)) tNil))))
    (tSeq (tIfS ((tAnd (tTest (tOp rGtI (tCB (rLen1 Z.K) (tCons (tVar 2) tNil)) (tC (.int 3)))) (tTest (tOp rGtI (tCall (sp_L_next Z) [] E0 (tCons (tVar 0) (tCons (tC (.int 3)) tNil))) (tC (.int 0)))))) ((tDrop (tBM Z.K "list" rPopAt (tVar 2) (tCons (tCall (sp_L_next Z) [] E0 (tCons (tVar 0) (tCons (tC (.int 3)) tNil))) tNil)))) (tNext))
    ((tRet (tStepL Z.K (tLst (tCons (tVar 1) (tCons (tVar 2) tNil))) (tOp (rIxL Z.K) (tLst (tCons (tC (.int 1)) (tCons (tUn rNegI (tC (.int 1))) tNil))) (tCall (sp_L_next Z) [] E0 (tCons (tVar 0) (tCons (tC (.int 2)) tNil))))))))))
theorem All2.take {α β : Type} {R : α → β → Prop} : ∀ {l m} (n : Nat), All2 R l m → All2 R (l.take n) (m.take n)
  | _, _, 0, _ => .nil
  | _, _, n + 1, .nil => .nil
  | _, _, n + 1, .cons r t => .cons r (All2.take n t)
theorem All2.drop {α β : Type} {R : α → β → Prop} : ∀ {l m} (n : Nat), All2 R l m → All2 R (l.drop n) (m.drop n)
  | _, _, 0, h => h
  | _, _, n + 1, .nil => .nil
  | _, _, n + 1, .cons r t => All2.drop n t
theorem All2.app {α β : Type} {R : α → β → Prop} : ∀ {l l2 m m2}, All2 R l m → All2 R l2 m2 → All2 R (l ++ l2) (m ++ m2)
  | _, _, _, _, .nil, h => h
  | _, _, _, _, .cons a b, h => .cons a (All2.app b h)
theorem All2.erase {α β : Type} {R : α → β → Prop} : ∀ {l m} (n : Nat), All2 R l m → All2 R (l.eraseIdx n) (m.eraseIdx n)
  | _, _, 0, .nil => .nil
  | _, _, n + 1, .nil => .nil
  | _, _, 0, .cons r t => t
  | _, _, n + 1, .cons r t => .cons r (All2.erase n t)
theorem cut_drop {xs : List V} (n : Nat) (h : n ≤ xs.length) : cutV xs (some (n : Int)) none = xs.drop n := by
  have e : HT.sIx xs.length 0 (some (n : Int)) = min n xs.length := HT.sIx_nat _ 0 n
  unfold cutV
  rw [HT.sIx_none, e, Nat.min_eq_left h, List.take_of_length_le (by rw [List.length_drop]; omega)]
/-- deeds in a list at l -/
def RowL (H : Hp) (l : Addr) (ds : List Deed) : Prop := ∃ us, H l = some (.lst us) ∧ All2 (DeedAt H) us ds
theorem RowL.prog {H : Hp} {l : Addr} {ds : List Deed} (h : RowL H l ds) : ProgAt H (.ref l) ds := let ⟨us, a, b⟩ := h; ⟨l, us, rfl, a, b⟩
theorem RowL.same {H H' : Hp} (c : Same H H') {l : Addr} {ds : List Deed} (h : RowL H l ds) : RowL H' l ds := let ⟨us, a, b⟩ := h; ⟨us, c _ _ a, b.mono fun _ _ => DeedAt.mono fun b xs e => c _ _ e⟩
theorem RowL.ne {K : PySem.W.Frag} {H : Hp} {d l : Addr} {ds : List Deed} (x : DiceAt K H d) (h : RowL H l ds) : l ≠ d := let ⟨_, a, b⟩ := h; ProgAt.ne x a b
theorem RowL.dice {K : PySem.W.Frag} {H H' : Hp} {d l : Addr} {ds : List Deed} (c : Chg (Dc d) H H') (x : DiceAt K H d) (h : RowL H l ds) : RowL H' l ds := by
  have n := h.ne x
  obtain ⟨us, a, b⟩ := h
  exact ⟨us, c.ne a n, b.mono fun _ _ => DeedAt.mono c.tup⟩
theorem RowL.put {H : Hp} {l l2 : Addr} {ds : List Deed} {us vs : List V} (h : RowL H l2 ds) (hl : H l = some (.lst us)) (n : l2 ≠ l) : RowL (upd H l (.lst vs)) l2 ds := by
  obtain ⟨ws, a, b⟩ := h
  refine ⟨ws, by rw [upd_ne n]; exact a, b.mono fun _ _ => DeedAt.mono fun b xs e => ?_⟩
  rw [upd_ne (fun z => by rw [z, hl] at e; cases e)]
  exact e
theorem deed_put {H : Hp} {l : Addr} {us vs : List V} (hl : H l = some (.lst us)) {v : V} {d : Deed} (h : DeedAt H v d) : DeedAt (upd H l (.lst vs)) v d := h.mono fun b xs e => by
  rw [upd_ne (fun z => by rw [z, hl] at e; cases e)]
  exact e
/-- [1, -1][..] -/
theorem t_sign {Z : Cs} {s : L2.St} {H : Hp} {d : Addr} {Q : VK} (h0 : s[0]? = some (some (.ref d))) (x : DiceAt Z.K H d) (q : ∀ (k : Int) H', (k = 1 ∨ k = -1) → Chg (Dc d) H H' → DiceAt Z.K H' d → Q (.int k) H') :
    tOp (rIxL Z.K) (tLst (tCons (tC (.int 1)) (tCons (tUn rNegI (tC (.int 1))) tNil))) (tCall (sp_L_next Z) [] E0 (tCons (tVar 0) (tCons (tC (.int 2)) tNil))) s H Q := by
  refine t_op_of (e_lst (ea_cons ev_c (ea_cons (ev_neg ev_c) ea_nil)) (by show 2 ≤ 1000; decide) fun lk hlk => ?_)
  have x1 := x.same (Same.new (o := .lst [.int 1, .int (-1)]) hlk)
  refine s_next h0 x1 (ev_N 2 rfl) (by decide) (by decide) fun y H2 hy c2 x2 => ?_
  have hlk2 := c2.ne (upd_same (H := H) (a := lk) (o := .lst [.int 1, .int (-1)])) (x.ne hlk)
  have hk : ∃ k : Int, atI [V.int 1, V.int (-1)] (y : Int) = some (.int k) ∧ (k = 1 ∨ k = -1) := by
    have : y = 0 ∨ y = 1 := by omega
    rcases this with rfl | rfl
    · exact ⟨1, rfl, .inl rfl⟩
    · exact ⟨-1, rfl, .inr rfl⟩
  obtain ⟨k, hat, hk⟩ := hk
  exact ⟨lk, _, _, _, rfl, rfl, SqL.of hlk2, hat, q k H2 hk ((Chg.same (Same.new hlk)).trans c2) x2⟩
theorem pure_L_few {Z : Cs} (vs : List V) (H : Hp) (Q : VK) (E : XK) (h : sp_L_few Z vs H Q E) : t_L_few Z { nx := fun _ H' => Q .non H', rt := Q } (start ["_law_d", "_law_one", "_law_other"] vs) H := by
  obtain ⟨d, rfl, x, q⟩ := h
  unfold t_L_few
  walk_at "q"
  refine s_asg_of (t_op_of (t_lst_of (t_cons_of (t_lst_of (t_cons_of (e_tup (ea_cons ev_c ea_nil) (by show 1 ≤ 1000; decide) fun t1 ht1 => ⟨by show 1 ≤ sizeLine; decide, fun l1 hl1 => ?_⟩))))))
  have k1 : Same H (upd (upd H t1 (.tup [.str "pop"])) l1 (.lst [.ref t1])) := fun b o e => Same.new hl1 _ _ (Same.new ht1 _ _ e)
  have r1 : RowL (upd (upd H t1 (.tup [.str "pop"])) l1 (.lst [.ref t1])) l1 [.pop] := ⟨_, upd_same, .cons ⟨t1, rfl, Same.new hl1 _ _ upd_same⟩ .nil⟩
  have x1 := x.same k1
  generalize upd (upd H t1 (.tup [.str "pop"])) l1 (.lst [.ref t1]) = H1 at k1 r1 x1 ⊢
  refine t_cons_of (t_lst_of (t_cons_of (s_call (ea_cons (ev_var rfl) ea_nil) ⟨d, rfl, x1, fun v e2 H2 c2 x2 hv he => ⟨by show 1 ≤ sizeLine; decide, fun l2 hl2 => ⟨by show 2 ≤ sizeLine; decide, fun l3 hl3 => ?_⟩⟩⟩)))
  have k2 : Same H2 (upd (upd H2 l2 (.lst [v])) l3 (.lst [.ref l1, .ref l2])) := fun b o e => Same.new hl3 _ _ (Same.new hl2 _ _ e)
  have r2 : RowL (upd (upd H2 l2 (.lst [v])) l3 (.lst [.ref l1, .ref l2])) l2 [e2] := ⟨[v], Same.new hl3 _ _ upd_same, .cons (hv.mono fun b xs e => k2 _ _ e) .nil⟩
  have r1 := (r1.dice c2 x1).same k2
  have g3 : (upd (upd H2 l2 (.lst [v])) l3 (.lst [.ref l1, .ref l2])) l3 = some (.lst [.ref l1, .ref l2]) := upd_same
  have x3 := x2.same k2
  have n3 : l3 ≠ d := (x2.same (Same.new (o := .lst [v]) hl2)).ne hl3
  have c3 : Chg (Dc d) H (upd (upd H2 l2 (.lst [v])) l3 (.lst [.ref l1, .ref l2])) := ((Chg.same k1).trans c2).trans (Chg.same k2)
  generalize upd (upd H2 l2 (.lst [v])) l3 (.lst [.ref l1, .ref l2]) = H3 at r1 r2 g3 x3 c3 ⊢
  refine t_cb_of (t_cons_of (t_op_of (s_next rfl x3 (ev_N 4 rfl) (by decide) (by decide) fun y H4 hy c4 x4 => ⟨rfl, ?_⟩)))
  have g4 := c4.ne g3 n3
  have r1 := r1.dice c4 x3
  have r2 := r2.dice c4 x3
  have c4 := c3.trans c4
  have one : ∃ (lA : Addr) (dsA : List Deed), RowL H4 lA dsA ∧ dsA.length = 1 ∧ (∀ e ∈ dsA, okDeed e) ∧ atI [V.ref l1, V.ref l2] (if decide (V.int (y : Int) = V.int 3) = true then 1 else 0) = some (.ref lA) := by
    cases decide (V.int (y : Int) = V.int 3) with
    | true => exact ⟨l2, _, r2, rfl, fun e h => by rw [List.mem_singleton.mp h]; exact he, rfl⟩
    | false => exact ⟨l1, _, r1, rfl, fun e h => by rw [List.mem_singleton.mp h]; trivial, rfl⟩
  obtain ⟨lA, dsA, rA, hA, okA, hat⟩ := one
  refine .inr ⟨_, rfl, l3, _, _, _, rfl, rfl, SqL.of g4, hat, ?_⟩
  clear r1 r2 g3 g4 x3 c3 x1 hat hv n3
  show ({ nx := _, rt := Q : Ends }).nx _ _
  walk_at "q"
  -- the other row
  refine s_asg_of (t_lst_of (t_cons_of (e_tup (ea_cons ev_c ea_nil) (by show 1 ≤ 1000; decide) fun t2 ht2 => ?_)))
  refine t_cons_of (e_tup (ea_cons ev_c ea_nil) (by show 1 ≤ 1000; decide) fun t3 ht3 => ?_)
  have k5 : Same H4 (upd (upd H4 t2 (.tup [.str "pop"])) t3 (.tup [.str "pop"])) := fun b o e => Same.new ht3 _ _ (Same.new ht2 _ _ e)
  have d2 : DeedAt (upd (upd H4 t2 (.tup [.str "pop"])) t3 (.tup [.str "pop"])) (.ref t2) .pop := ⟨t2, rfl, Same.new ht3 _ _ upd_same⟩
  have d3 : DeedAt (upd (upd H4 t2 (.tup [.str "pop"])) t3 (.tup [.str "pop"])) (.ref t3) .pop := ⟨t3, rfl, upd_same⟩
  have x5 := x4.same k5
  have rA := rA.same k5
  have c5 := c4.trans (Chg.same (F := Dc d) k5)
  generalize upd (upd H4 t2 (.tup [.str "pop"])) t3 (.tup [.str "pop"]) = H5 at d2 d3 x5 rA c5 ⊢
  refine t_cons_of (t_tup_of (t_cons_of (ev_c _ (t_cons_of (s_next rfl x5 (ev_N 100 rfl) (by decide) (by decide) fun z H6 hz c6 x6 => ⟨by show 2 ≤ sizeLine; decide, fun t4 ht4 => ⟨by show 3 ≤ sizeLine; decide, fun l4 hl4 => ?_⟩⟩)))))
  have k7 : Same H6 (upd (upd H6 t4 (.tup [.str "push", .int z])) l4 (.lst [.ref t2, .ref t3, .ref t4])) := fun b o e => Same.new hl4 _ _ (Same.new ht4 _ _ e)
  have r4 : RowL (upd (upd H6 t4 (.tup [.str "push", .int z])) l4 (.lst [.ref t2, .ref t3, .ref t4])) l4 [.pop, .pop, .push z] :=
    ⟨_, upd_same, .cons ((d2.mono c6.tup).mono fun b xs e => k7 _ _ e) (.cons ((d3.mono c6.tup).mono fun b xs e => k7 _ _ e) (.cons ⟨t4, rfl, Same.new hl4 _ _ upd_same⟩ .nil))⟩
  have x7 := x6.same k7
  have rA := (rA.dice c6 x5).same k7
  have c7 := (c5.trans c6).trans (Chg.same (F := Dc d) k7)
  generalize upd (upd H6 t4 (.tup [.str "push", .int z])) l4 (.lst [.ref t2, .ref t3, .ref t4]) = H7 at r4 x7 rA c7 ⊢
  refine s_next rfl x7 (ev_N 3 rfl) (by decide) (by decide) fun w H8 hw c8 x8 => ?_
  have r4 := r4.dice c8 x7
  have rA := rA.dice c8 x7
  have c8 := c7.trans c8
  clear d2 d3 c7 c6 x6 x7 c5 x5 c4 x4 k7 k5
  have ok3 : ∀ e ∈ [Deed.pop, .pop, .push z], okDeed e := by
    intro e he
    simp only [List.mem_cons, List.not_mem_nil, or_false] at he
    rcases he with rfl | rfl | rfl
    · trivial
    · trivial
    · exact ⟨by omega, by omega⟩
  obtain ⟨us4, g4, a4⟩ := r4
  have ul4 := a4.length
  refine ⟨_, rfl, l4, us4, rfl, SqL.of g4, fun l5 hl5 => ?_⟩
  rw [cut_drop w (by rw [ul4]; show w ≤ 3; omega)]
  have k9 : Same H8 (upd H8 l5 (.lst (us4.drop w))) := Same.new hl5
  have f5 : H l5 = none := c8.free' (x8.ne hl5) hl5
  have g5 : (upd H8 l5 (.lst (us4.drop w))) l5 = some (.lst (us4.drop w)) := upd_same
  have a5 := (a4.drop w).mono fun _ _ => DeedAt.mono fun b xs e => k9 _ _ e
  have ok5 : ∀ e ∈ [Deed.pop, .pop, .push z].drop w, okDeed e := fun e h => ok3 e (List.mem_of_mem_drop h)
  have len5 : 1 ≤ ([Deed.pop, .pop, .push z].drop w).length ∧ ([Deed.pop, .pop, .push z].drop w).length ≤ 3 := by
    rw [List.length_drop]
    show 1 ≤ 3 - w ∧ 3 - w ≤ 3
    omega
  have x9 := x8.same k9
  have nA : lA ≠ l5 := by
    obtain ⟨_, h, _⟩ := rA
    exact ne_of_none h hl5
  have rA := rA.same k9
  have c9 := c8.trans (Chg.same (F := Dc d) k9)
  generalize hds : [Deed.pop, .pop, .push z].drop w = ds5 at a5 ok5 len5
  generalize hus5 : us4.drop w = us5 at g5 a5 k9 x9 rA c9 ⊢
  generalize upd H8 l5 (.lst us5) = H9 at g5 a5 x9 rA c9 ⊢
  clear k9 g4 a4 ul4 c8 x8 hl5 hds hus5
  show ({ nx := _, rt := Q : Ends }).nx _ _
  walk_at "q"
  have ul5 := a5.length
  -- insert
  refine s_drop' (t_bm_of (ev_var (v := .ref l5) rfl _ ⟨.inl ⟨rfl, us5, SqL.of g5⟩, t_cons_of (s_next (m := us5.length + 1) rfl x9 (ev_is (ev_add (ev_lenL (ev_var rfl) (SqL.of g5)) ev_c) rfl) (by omega) (by omega) fun y2 H10 hy2 c10 x10 => ?_)⟩))
  have g5 := c10.ne g5 (RowL.ne x9 ⟨us5, g5, a5⟩)
  have a5 := a5.mono fun _ _ => DeedAt.mono c10.tup
  have rA := rA.dice c10 x9
  have c10 := c9.trans c10
  refine t_cons_of (s_call (ea_cons (ev_var rfl) ea_nil) ⟨d, rfl, x10, fun v2 e3 H11 c11 x11 hv2 he3 => ?_⟩)
  have g5 := c11.ne g5 (RowL.ne x10 ⟨us5, g5, a5⟩)
  have a5 := a5.mono fun _ _ => DeedAt.mono c11.tup
  have rA := rA.dice c11 x10
  have c11 := c10.trans c11
  refine ⟨l5, us5, y2, v2, rfl, rfl, g5, by rw [ul5]; exact Nat.lt_of_le_of_lt (Nat.le_trans len5.2 (by decide : 3 ≤ 1000)) (by decide), by omega, by omega, ?_⟩
  have n5 := RowL.ne x11 ⟨us5, g5, a5⟩
  have x12 := x11.fill (o := .lst (us5.take (y2 : Int).toNat ++ [v2] ++ us5.drop (y2 : Int).toNat)) g5 n5
  have rA := rA.put (vs := us5.take (y2 : Int).toNat ++ [v2] ++ us5.drop (y2 : Int).toNat) g5 nA
  have c12 := chg_fill (o := .lst (us5.take (y2 : Int).toNat ++ [v2] ++ us5.drop (y2 : Int).toNat)) c11 f5
  have g6 : (upd H11 l5 (.lst (us5.take (y2 : Int).toNat ++ [v2] ++ us5.drop (y2 : Int).toNat))) l5 = some (.lst (us5.take (y2 : Int).toNat ++ [v2] ++ us5.drop (y2 : Int).toNat)) := upd_same
  have a6 : All2 (DeedAt (upd H11 l5 (.lst (us5.take (y2 : Int).toNat ++ [v2] ++ us5.drop (y2 : Int).toNat)))) (us5.take (y2 : Int).toNat ++ [v2] ++ us5.drop (y2 : Int).toNat) (ds5.take (y2 : Int).toNat ++ [e3] ++ ds5.drop (y2 : Int).toNat) :=
    (All2.app (All2.app (a5.take _) (.cons hv2 .nil)) (a5.drop _)).mono fun _ _ => deed_put g5
  have ok6 : ∀ e ∈ ds5.take (y2 : Int).toNat ++ [e3] ++ ds5.drop (y2 : Int).toNat, okDeed e := fun e h => by
    rcases List.mem_append.mp h with h | h
    · rcases List.mem_append.mp h with h | h
      · exact ok5 e (List.mem_of_mem_take h)
      · rw [List.mem_singleton.mp h]
        exact he3
    · exact ok5 e (List.mem_of_mem_drop h)
  have len6 : (ds5.take (y2 : Int).toNat ++ [e3] ++ ds5.drop (y2 : Int).toNat).length = ds5.length + 1 := by
    rw [List.length_append, List.length_append, List.length_take, List.length_drop]
    show min _ _ + 1 + _ = _
    omega
  generalize us5.take (y2 : Int).toNat ++ [v2] ++ us5.drop (y2 : Int).toNat = us6 at x12 rA c12 g6 a6 ⊢
  generalize ds5.take (y2 : Int).toNat ++ [e3] ++ ds5.drop (y2 : Int).toNat = ds6 at a6 ok6 len6
  generalize upd H11 l5 (.lst us6) = H12 at x12 rA c12 g6 a6 ⊢
  clear g5 a5 c11 c10 x11 x10 c9 x9 ok5 ok3 hv2
  walk_at "q"
  -- the rest
  have fin : ∀ (D0 : Ends) H13 us7 ds7, D0.rt = Q → Chg (Dc d) H H13 → DiceAt Z.K H13 d → RowL H13 lA dsA → H13 l5 = some (.lst us7) → All2 (DeedAt H13) us7 ds7 → (∀ e ∈ ds7, okDeed e) → 1 ≤ ds7.length → ds7.length ≤ 4 →
      tRet (tStepL Z.K (tLst (tCons (tVar 1) (tCons (tVar 2) tNil))) (tOp (rIxL Z.K) (tLst (tCons (tC (.int 1)) (tCons (tUn rNegI (tC (.int 1))) tNil))) (tCall (sp_L_next Z) [] E0 (tCons (tVar 0) (tCons (tC (.int 2)) tNil))))) D0 [some (V.ref d), some (.ref lA), some (.ref l5)] H13 := by
    intro D0 H13 us7 ds7 eD c13 x13 rA g7 a7 ok7 l1' l4'
    refine s_ret_of (e_lst (ea_cons (ev_var rfl) (ea_cons (ev_var rfl) ea_nil)) (by show 2 ≤ 1000; decide) fun l6 hl6 => ?_)
    have k14 : Same H13 (upd H13 l6 (.lst [.ref lA, .ref l5])) := Same.new hl6
    have g14 : (upd H13 l6 (.lst [.ref lA, .ref l5])) l6 = some (.lst [.ref lA, .ref l5]) := upd_same
    have n14 := x13.ne hl6
    generalize upd H13 l6 (.lst [.ref lA, .ref l5]) = H14 at k14 g14 ⊢
    refine t_sign rfl (x13.same k14) fun k H15 hk c15 x15 => ⟨k, rfl, l6, _, k, rfl, rfl, SqL.of (c15.ne g14 n14), hk, fun p hp => ?_⟩
    rw [eD]
    have k16 : Same H15 (upd H15 p (.lst (if k = 1 then [V.ref lA, .ref l5] else [V.ref lA, .ref l5].reverse))) := Same.new hp
    have cc := (c13.trans (Chg.same (F := Dc d) k14)).trans c15
    have pA := (((rA.same k14).dice c15 (x13.same k14)).same k16).prog
    have pB := (((RowL.same k14 ⟨us7, g7, a7⟩).dice c15 (x13.same k14)).same k16).prog
    have okk : ∀ ps, ps = [dsA, ds7] ∨ ps = [ds7, dsA] → ∀ p ∈ ps, ∀ e ∈ p, okDeed e := fun ps hps p hp => by
      have : p = dsA ∨ p = ds7 := by
        rcases hps with rfl | rfl <;> simp only [List.mem_cons, List.not_mem_nil, or_false] at hp
        · exact hp
        · exact hp.symm
      rcases this with rfl | rfl
      · exact okA
      · exact ok7
    rcases hk with rfl | rfl
    · rw [if_pos rfl] at k16 pA pB ⊢
      exact q p [dsA, ds7] _ (cc.free' (x15.ne hp) hp) (cc.trans (Chg.same k16)) (x15.same k16) ⟨_, upd_same, .cons pA (.cons pB .nil)⟩ ⟨dsA, ds7, .inl rfl, hA, l1', l4'⟩ (okk _ (.inl rfl))
    · rw [if_neg (by decide)] at k16 pA pB ⊢
      exact q p [ds7, dsA] _ (cc.free' (x15.ne hp) hp) (cc.trans (Chg.same k16)) (x15.same k16) ⟨_, upd_same, .cons pB (.cons pA .nil)⟩ ⟨dsA, ds7, .inr rfl, hA, l1', l4'⟩ (okk _ (.inr rfl))
  have ul6 := a6.length
  by_cases hl3 : ds6.length ≤ 3
  · refine s_ifF (et_is (et_and (b := true) (et_test (ev_gt (ev_lenL (ev_var rfl) (SqL.of g6)) ev_c)) fun e => ?_) ?_) (fin _ H12 us6 ds6 rfl c12 x12 rA g6 a6 ok6 (by omega) (by omega))
    · exact absurd (of_decide_eq_true e) (by omega)
    · rw [decide_eq_false (by omega)]
      rfl
  refine s_if_of ?_
  refine t_and_of ((et_test (ev_is (ev_gt (ev_lenL (ev_var rfl) (SqL.of g6)) ev_c) (by rw [decide_eq_true (by omega)]))) _ (iteT ?_))
  refine t_test_of (t_op_of (s_next rfl x12 (ev_N 3 rfl) (by decide) (by decide) fun r H13 hr c13 x13 => ⟨_, _, rfl, rfl, ?_⟩))
  refine ⟨_, rfl, ?_⟩
  have n5' := RowL.ne x12 ⟨us6, g6, a6⟩
  have g7 := c13.ne g6 n5'
  have a7 := a6.mono fun _ _ => DeedAt.mono c13.tup
  have rA7 := rA.dice c13 x12
  have c13' := c12.trans c13
  cases decide ((0 : Int) < (r : Int)) with
  | false => exact iteF (fin _ H13 us6 ds6 rfl c13' x13 rA7 g7 a7 ok6 (by omega) (by omega))
  | true =>
    refine iteT ?_
    refine s_drop' (t_bm_of (ev_var (v := .ref l5) rfl _ ⟨.inl ⟨rfl, us6, SqL.of g7⟩, t_cons_of (s_next rfl x13 (ev_N 3 rfl) (by decide) (by decide) fun r2 H14 hr2 c14 x14 => ?_)⟩))
    have n7 := RowL.ne x13 ⟨us6, g7, a7⟩
    have g8 := c14.ne g7 n7
    have a8 := a7.mono fun _ _ => DeedAt.mono c14.tup
    have rA8 := rA7.dice c14 x13
    have c14' := c13'.trans c14
    have hi : r2 < us6.length := by omega
    refine ⟨l5, us6, r2, r2, us6[r2], rfl, rfl, g8, by omega, by omega, ?_, List.getElem?_eq_getElem hi, ?_⟩
    · unfold seqIndex?
      simp
      omega
    · refine fin _ _ (us6.eraseIdx r2) (ds6.eraseIdx r2) rfl (chg_fill c14' f5) (x14.fill g8 (RowL.ne x14 ⟨us6, g8, a8⟩)) (rA8.put g8 nA) upd_same ((a8.erase r2).mono fun _ _ => deed_put g8) (fun e h => ok6 e (List.mem_of_mem_eraseIdx h)) ?_ ?_
      · rw [List.length_eraseIdx]
        split <;> omega
      · rw [List.length_eraseIdx]
        split <;> omega
end SS

set_option Elab.async false
set_option linter.all false
set_option maxRecDepth 100000
set_option maxHeartbeats 4000000
namespace SS
open PySem L2
local macro_rules | `(tactic| walk_at "q") => `(tactic| ((try dsimp only); refine s_seq ?_))
def sp_L_small_case (Z : Cs) : Sp := fun vs H Q _ => ∃ (d : Addr), vs = [.ref d] ∧ DiceAt Z.K H d ∧
  ∀ (t lv lp lr : Addr) (values : List Int) (ps : List (List Deed)) (r : Rule) H', Chg (Dc d) H H' → DiceAt Z.K H' d → H' t = some (.tup [.ref lv, .ref lp, .ref lr]) → H lv = none → H lp = none → H' lv = some (.lst (values.map V.int)) → PgAt H' lp ps → RuleAt H' lr r → okIn values ps r → few ps → Q (.ref t) H'
/-- _law_small_case: 0 _law_d, 1 _law_values_here, 2 _law_programs, 3 _law_rule_here -/
def t_L_small_case (Z : Cs) : TS :=
  tSeq (tAsg (tCall (sp_L_values Z) [] E0 (tCons (tVar 0) (tCons (tC (.int 3)) tNil))) (gName 1))
    (tSeq (tAsg (tCall (sp_L_few Z) [] E0 (tCons (tVar 0) tNil)) (gName 2))
    (tSeq (tAsg (tCall (sp_L_rule Z) [] E0 (tCons (tVar 0) (tCons (tCB (rLen1 Z.K) (tCons (tVar 2) tNil)) tNil))) (gName 3))
    ((tRet (tTup (tCons (tVar 1) (tCons (tVar 2) (tCons (tOp (rIxL Z.K) (tLst (tCons (tVar 3) (tCons (tTup (tCons (tC (.str "counts")) (tCons (tC (.int 1)) tNil))) (tCons (tTup (tCons (tC (.str "marks")) (tCons (tTup tNil) tNil))) tNil)))) (tCall (sp_L_next Z) [] E0 (tCons (tVar 0) (tCons (tC (.int 3)) tNil)))) tNil))))))))
theorem few.len {ps : List (List Deed)} (h : few ps) : ps.length = 2 ∧ ∀ p ∈ ps, p.length ≤ 4 := by
  obtain ⟨a, b, rfl | rfl, h1, h2, h3⟩ := h
  · refine ⟨rfl, fun p hp => ?_⟩
    simp only [List.mem_cons, List.not_mem_nil, or_false] at hp
    rcases hp with rfl | rfl <;> omega
  · refine ⟨rfl, fun p hp => ?_⟩
    simp only [List.mem_cons, List.not_mem_nil, or_false] at hp
    rcases hp with rfl | rfl <;> omega
theorem PgAt.len {K : PySem.W.Frag} {s : L2.St} {H : Hp} {l : Addr} {ps : List (List Deed)} {te : TE} (h : PgAt H l ps) (e : Ev te s H (.ref l)) : Ev (tCB (rLen1 K) (tCons te tNil)) s H (.int (ps.length : Nat)) := by
  obtain ⟨us, h1, h2⟩ := h
  exact ev_is (ev_lenL e (SqL.of h1)) (by rw [h2.length])
theorem pure_L_small_case {Z : Cs} (vs : List V) (H : Hp) (Q : VK) (E : XK) (h : sp_L_small_case Z vs H Q E) : t_L_small_case Z { nx := fun _ H' => Q .non H', rt := Q } (start ["_law_d", "_law_values_here", "_law_programs", "_law_rule_here"] vs) H := by
  obtain ⟨d, rfl, x, q⟩ := h
  unfold t_L_small_case
  walk_at "q"
  refine s_asg_of (s_call (ea_cons (ev_var rfl) (ea_cons (ev_N 3 rfl) ea_nil)) ⟨d, 3, rfl, x, by omega, fun lv ns H1 hlv c1 x1 g1 hl hv => ?_⟩)
  have n1 : lv ≠ d := x.ne hlv
  show ({ nx := _, rt := Q : Ends }).nx _ _
  walk_at "q"
  refine s_asg_of (s_call (ea_cons (ev_var rfl) ea_nil) ⟨d, rfl, x1, fun lp ps H2 hlp c2 x2 p2 fw okd => ?_⟩)
  have g2 := c2.ne g1 n1
  have hlp0 : H lp = none := c1.free' (x1.ne hlp) hlp
  show ({ nx := _, rt := Q : Ends }).nx _ _
  walk_at "q"
  refine s_asg_of (s_call (ea_cons (ev_var rfl) (ea_cons (p2.len (ev_var rfl)) ea_nil)) ⟨d, ps.length, rfl, x2, by rw [fw.len.1]; omega, fun lr r H3 c3 x3 hr ok => ?_⟩)
  have g3 := c3.ne g2 n1
  have p3 := p2.dice c3 x2
  show ({ nx := _, rt := Q : Ends }).nx _ _
  dsimp only
  refine s_ret_of (t_tup_of (t_cons_of (ev_var (v := .ref lv) rfl _ (t_cons_of (ev_var (v := .ref lp) rfl _ (t_cons_of (t_op_of (t_lst_of (t_cons_of (ev_var (v := .ref lr) rfl _ (t_cons_of (e_tup (ea_cons ev_c (ea_cons ev_c ea_nil)) (by show 2 ≤ 1000; decide) fun t1 ht1 => ?_))))))))))))
  refine t_cons_of (t_tup_of (t_cons_of (ev_c _ (t_cons_of (e_tup ea_nil (by show 0 ≤ 1000; decide) fun t2 ht2 => ⟨by show 2 ≤ sizeLine; decide, fun t3 ht3 => ⟨by show 3 ≤ sizeLine; decide, fun l hl2 => ?_⟩⟩)))))
  have k4 : Same H3 (upd H3 t1 (.tup [.str "counts", .int 1])) := Same.new ht1
  have g4 : (upd H3 t1 (.tup [.str "counts", .int 1])) t1 = some (.tup [.str "counts", .int 1]) := upd_same
  generalize upd H3 t1 (.tup [.str "counts", .int 1]) = H4 at k4 g4 ht2 ht3 hl2 ⊢
  have k5 : Same H4 (upd H4 t2 (.tup [])) := Same.new ht2
  have g5 : (upd H4 t2 (.tup [])) t2 = some (.tup []) := upd_same
  generalize upd H4 t2 (.tup []) = H5 at k5 g5 ht3 hl2 ⊢
  have k6 : Same H5 (upd H5 t3 (.tup [.str "marks", .ref t2])) := Same.new ht3
  have g6 : (upd H5 t3 (.tup [.str "marks", .ref t2])) t3 = some (.tup [.str "marks", .ref t2]) := upd_same
  generalize upd H5 t3 (.tup [.str "marks", .ref t2]) = H6 at k6 g6 hl2 ⊢
  have k7 : Same H6 (upd H6 l (.lst [.ref lr, .ref t1, .ref t3])) := Same.new hl2
  have g7 : (upd H6 l (.lst [.ref lr, .ref t1, .ref t3])) l = some (.lst [.ref lr, .ref t1, .ref t3]) := upd_same
  have k37 := Same.trans (Same.trans (Same.trans k4 k5) k6) k7
  have nl : l ≠ d := (((x3.same k4).same k5).same k6).ne hl2
  generalize upd H6 l (.lst [.ref lr, .ref t1, .ref t3]) = H7 at k7 g7 k37 ⊢
  have x7 := x3.same k37
  refine s_next rfl x7 (ev_N 3 rfl) (by decide) (by decide) fun y H8 hy c8 x8 => ?_
  have r1 : RuleAt H8 lr r := (hr.mono fun b xs e => k37 _ _ e).mono c8.tup
  have r2 : RuleAt H8 t1 (.counts 1) := c8.tup _ _ (k7 _ _ (k6 _ _ (k5 _ _ g4)))
  have r3 : RuleAt H8 t3 (.marks []) := ⟨t2, c8.tup _ _ (k7 _ _ g6), c8.tup _ _ (k7 _ _ (k6 _ _ g5))⟩
  have one : ∃ (a : Addr) (r' : Rule), atI [V.ref lr, .ref t1, .ref t3] (y : Int) = some (.ref a) ∧ RuleAt H8 a r' ∧ okRule ps.length r' := by
    have : y = 0 ∨ y = 1 ∨ y = 2 := by omega
    rcases this with rfl | rfl | rfl
    · exact ⟨lr, r, rfl, r1, ok⟩
    · exact ⟨t1, _, rfl, r2, by decide, by decide⟩
    · exact ⟨t3, _, rfl, r3, (fun h hh => by cases hh), trivial, by decide⟩
  obtain ⟨a, r', hat, hra, okr⟩ := one
  refine ⟨l, _, _, _, rfl, rfl, SqL.of (c8.ne g7 nl), hat, ⟨by show 3 ≤ sizeLine; decide, fun t ht => ?_⟩⟩
  have k9 : Same H8 (upd H8 t (.tup [.ref lv, .ref lp, .ref a])) := Same.new ht
  have cc : Chg (Dc d) H (upd H8 t (.tup [.ref lv, .ref lp, .ref a])) := ((((c1.trans c2).trans c3).trans (Chg.same k37)).trans c8).trans (Chg.same k9)
  refine q t lv lp a ns ps r' _ cc (x8.same k9) upd_same hlv hlp0 (k9 _ _ (c8.ne (k37 _ _ g3) n1)) (((p3.same k37).dice c8 x7).same k9) (hra.mono fun b xs e => k9 _ _ e) ⟨by omega, hv, ⟨by rw [fw.len.1]; omega, by rw [fw.len.1]; omega⟩, fw.len.2, okd, okr⟩ fw
end SS

set_option Elab.async false
set_option linter.all false
set_option maxRecDepth 100000
set_option maxHeartbeats 4000000
/-! Small cases: what stands; safe rules. -/
namespace SS
open PySem L2
local macro_rules | `(tactic| walk_at "q") => `(tactic| ((try dsimp only); refine s_seq ?_))
structure SmAt (Z : Cs) (H : Hp) (d lv lp lr : Addr) (values : List Int) (ps : List (List Deed)) (r : Rule) : Prop where
  x : DiceAt Z.K H d
  v : H lv = some (.lst (values.map V.int))
  p : PgAt H lp ps
  r : RuleAt H lr r
  nv : lv ≠ d
theorem SmAt.same {Z : Cs} {H H' : Hp} {d lv lp lr : Addr} {values : List Int} {ps : List (List Deed)} {r : Rule} (S : SmAt Z H d lv lp lr values ps r) (c : Same H H') : SmAt Z H' d lv lp lr values ps r :=
  ⟨S.x.same c, c _ _ S.v, S.p.same c, S.r.mono fun b xs e => c _ _ e, S.nv⟩
theorem SmAt.dice {Z : Cs} {H H' : Hp} {d lv lp lr : Addr} {values : List Int} {ps : List (List Deed)} {r : Rule} (S : SmAt Z H d lv lp lr values ps r) (c : Chg (Dc d) H H') (x : DiceAt Z.K H' d) : SmAt Z H' d lv lp lr values ps r :=
  ⟨x, c.ne S.v S.nv, S.p.dice c S.x, S.r.mono c.tup, S.nv⟩
theorem few.cap {ps : List (List Deed)} (h : few ps) : cnt (6 + total ps) 1000 (kinds ps) 1 0 ≤ capN := by
  obtain ⟨a, b, rfl | rfl, h1, h2, h3⟩ := h
  · exact cap_two (.inl ⟨by omega, h3⟩)
  · exact cap_two (.inr ⟨h3, by omega⟩)
theorem few.total {ps : List (List Deed)} (h : few ps) : total ps ≤ 5 := by
  obtain ⟨a, b, rfl | rfl, h1, h2, h3⟩ := h
  · show a.length + (b.length + 0) ≤ 5
    omega
  · show b.length + (a.length + 0) ≤ 5
    omega
theorem s_stale {Z : Cs} {s : L2.St} {H : Hp} {ar : TA} {lv lp lr : Addr} {values : List Int} {ps : List (List Deed)} {r : Rule} {Q : VK} (ha : EvA ar s H [.ref lv, .ref lp, .ref lr]) (hv : SqL Z.K H lv (values.map V.int)) (hp : ProgsAt Z.K H lp ps) (hr : RuleAt H lr r) (ok : okIn values ps r)
    (hB : cnt (6 + total ps) 1000 (kinds ps) 1 0 ≤ capN) (q : ∀ x v H', Same H H' → Found ps.length (M.begin_ values ps r) x → OptAt H H' v x → Q v H') : tCall (sp_stale Z) [] E0 ar s H Q :=
  s_call ha ⟨lv, lp, lr, values, ps, r, rfl, hv, hp, hr, ok, hB, q⟩
theorem marksAll : ∀ (n k : Nat), rising (List.range' k n)
  | 0, _ => trivial
  | 1, _ => trivial
  | n + 2, k => ⟨Nat.lt_succ_self k, marksAll (n + 1) (k + 1)⟩
theorem ok_all {many : Nat} (h : many ≤ 1000) : okRule many (.marks (List.range many)) := ⟨fun h hh => List.mem_range.mp hh, by rw [List.range_eq_range']; exact marksAll many 0, by rw [List.length_range]; exact h⟩
theorem rg0 (n : Nat) : rgV 0 (n : Int) = (List.range n).map natV := rgV_nat n
theorem e_trg {te : TE} {s : L2.St} {H : Hp} {Q : VK} {n : Nat} (h : Ev te s H (.int (n : Int))) (hn : n ≤ 1000) (q : ∀ p, H p = none → Q (.ref p) (upd H p (.tup ((List.range n).map natV)))) : tTupRg (tRg1 te) s H Q :=
  h _ ⟨_, rfl, .of_le (by omega) (by omega) (by omega) (by omega), fun p hp => by rw [rgV_nat]; exact q p hp⟩
/-- (("keeps",), ("marks", tuple(range(many))), ("counts", min(15, deeds + 1))) -/
theorem e_safe {s : L2.St} {H : Hp} {n1 n2 : Nat} {ps : List (List Deed)} {Q : VK} (h1 : s[n1]? = some (some (.int (ps.length : Nat)))) (h2 : s[n2]? = some (some (.int (total ps : Nat)))) (l1 : ps.length ≤ 1000) (l2 : total ps ≤ 14)
    (q : ∀ p a1 a2 a3 H', Same H H' → H' p = some (.tup [.ref a1, .ref a2, .ref a3]) → (∀ a ∈ [a1, a2, a3], ∃ r, RuleAt H' a r ∧ goodRule ps r ∧ okRule ps.length r) → Q (.ref p) H') :
    tTup (tCons (tTup (tCons (tC (.str "keeps")) tNil)) (tCons (tTup (tCons (tC (.str "marks")) (tCons (tTupRg (tRg1 (tVar n1))) tNil))) (tCons (tTup (tCons (tC (.str "counts")) (tCons (tCB rMin2 (tCons (tC (.int 15)) (tCons (tOp rAddI (tVar n2) (tC (.int 1))) tNil))) tNil))) tNil))) s H Q := by
  refine t_tup_of (t_cons_of (e_tup (ea_cons ev_c ea_nil) (by show 1 ≤ 1000; decide) fun a1 ha1 => ?_))
  have k1 : Same H (upd H a1 (.tup [.str "keeps"])) := Same.new ha1
  have g1 : (upd H a1 (.tup [.str "keeps"])) a1 = some (.tup [.str "keeps"]) := upd_same
  generalize upd H a1 (.tup [.str "keeps"]) = H1 at k1 g1 ⊢
  refine t_cons_of (t_tup_of (t_cons_of (ev_c _ (t_cons_of (e_trg (ev_var h1) l1 fun t ht => ⟨by show 2 ≤ sizeLine; decide, fun a2 ha2 => ?_⟩)))))
  have k2 : Same H1 (upd H1 t (.tup ((List.range ps.length).map natV))) := Same.new ht
  have g2 : (upd H1 t (.tup ((List.range ps.length).map natV))) t = some (.tup ((List.range ps.length).map natV)) := upd_same
  generalize upd H1 t (.tup ((List.range ps.length).map natV)) = H2 at k2 g2 ha2 ⊢
  have k3 : Same H2 (upd H2 a2 (.tup [.str "marks", .ref t])) := Same.new ha2
  have g3 : (upd H2 a2 (.tup [.str "marks", .ref t])) a2 = some (.tup [.str "marks", .ref t]) := upd_same
  generalize upd H2 a2 (.tup [.str "marks", .ref t]) = H3 at k3 g3 ⊢
  have em : (if (total ps : Int) + 1 < 15 then (total ps : Int) + 1 else 15) = ((total ps + 1 : Nat) : Int) := by
    split <;> omega
  refine t_cons_of (t_tup_of (t_cons_of (ev_c _ (t_cons_of (t_cb_of (t_cons_of (ev_c _ (t_cons_of (ev_add (ev_var h2) ev_c _ ⟨15, _, rfl, ?_⟩)))))))))
  rw [em]
  refine ⟨by show 2 ≤ sizeLine; decide, fun a3 ha3 => ⟨by show 3 ≤ sizeLine; decide, fun p hp => ?_⟩⟩
  have k4 : Same H3 (upd H3 a3 (.tup [.str "counts", .int ((total ps + 1 : Nat) : Int)])) := Same.new ha3
  have g4 : (upd H3 a3 (.tup [.str "counts", .int ((total ps + 1 : Nat) : Int)])) a3 = some (.tup [.str "counts", .int ((total ps + 1 : Nat) : Int)]) := upd_same
  generalize upd H3 a3 (.tup [.str "counts", .int ((total ps + 1 : Nat) : Int)]) = H4 at k4 g4 hp ⊢
  have k5 : Same H4 (upd H4 p (.tup [.ref a1, .ref a2, .ref a3])) := Same.new hp
  refine q p a1 a2 a3 _ (Same.trans (Same.trans (Same.trans (Same.trans k1 k2) k3) k4) k5) upd_same fun a ha => ?_
  simp only [List.mem_cons, List.not_mem_nil, or_false] at ha
  rcases ha with rfl | rfl | rfl
  · exact ⟨.keeps, k5 _ _ (k4 _ _ (k3 _ _ (k2 _ _ g1))), trivial, trivial⟩
  · exact ⟨.marks (List.range ps.length), ⟨t, k5 _ _ (k4 _ _ g3), k5 _ _ (k4 _ _ (k3 _ _ g2))⟩, fun j hj => List.mem_range.mpr hj, ok_all l1⟩
  · exact ⟨.counts (total ps + 1), k5 _ _ g4, Nat.lt_succ_self _, by omega, by omega⟩
/-- [len(row) for row in programs], summed -/
theorem e_total {Z : Cs} {s : L2.St} {H : Hp} {Q : VK} {lp : Addr} {ps : List (List Deed)} {n k : Nat} (hn : s[n]? = some (some (.ref lp))) (hk : k < s.length) (hp : PgAt H lp ps) (p3 : ps.length ≤ 3)
    (q : ∀ H', Same H H' → Q (.int (total ps : Nat)) H') :
    tCB (rSum Z.K) (tCons (tLc (iList Z.K (tVar n)) (gName k) tYes (tCB (rLen1 Z.K) (tCons (tVar k) tNil)) [k]) tNil) s H Q := by
  obtain ⟨us, h1, h2⟩ := hp
  have ul := h2.length
  refine t_cb_of (t_cons_of (e_lcL (ev_var hn) (SqL.of h1) (fun D i H' => Same H H' ∧ H' D = some (.lst (((ps.take i).map fun p => (p.length : Int)).map V.int))) (fun D hD => ⟨Same.new hD, by rw [List.take_zero]; exact upd_same⟩) (fun D i H' _ _ p => SqL.of (p.1 _ _ h1)) (fun D i x H' hx hD p => ?_) (fun D H' hD p => ?_)))
  · obtain ⟨c, hL⟩ := p
    have hi : i < us.length := (List.getElem?_eq_some_iff.mp hx).1
    have hg : ps[i]? = some (ps[i]'(by omega)) := List.getElem?_eq_getElem _
    generalize ps[i]'(by omega) = row at hg
    obtain ⟨u, hu, r0, rs, rfl, e3, e4⟩ := h2.get i hg
    rw [hx] at hu
    cases hu
    refine ⟨by simp only [wipe, List.set_set], et_yes _ (iteT ((ev_lenL (ev_var (v := .ref r0) ?_) (SqL.of (c _ _ e3))) _ ⟨_, hL, ?_, same_newer c hD, ?_⟩))⟩
    · rw [List.getElem?_set_self (by rw [wipe_length]; exact hk)]
    · rw [List.length_map, List.length_map, List.length_take]
      exact Nat.lt_of_le_of_lt (by omega : _ ≤ 3) (by decide)
    · rw [take_snoc hg, List.map_append, List.map_append, e4.length]
      exact upd_same
  · rw [ul, List.take_length] at p
    refine ⟨D, _, rfl, SqL.of p.2, ?_⟩
    have es : ∀ l : List (List Deed), (l.map fun p => (p.length : Int)).sum = ((total l : Nat) : Int) := by
      intro l
      induction l with
      | nil => rfl
      | cons a l ih =>
        show (a.length : Int) + (l.map fun p => (p.length : Int)).sum = ((a.length + total l : Nat) : Int)
        rw [ih]
        omega
    rw [es]
    exact q H' p.1
theorem cut_last' {xs : List V} : cutV xs none (some (-1)) = xs.dropLast := by
  unfold cutV
  have e : HT.sIx xs.length xs.length (some (-1)) = xs.length - 1 := by
    unfold HT.sIx
    simp
    omega
  rw [HT.sIx_none, e, List.drop_zero, Nat.sub_zero, List.dropLast_eq_take]
theorem live_pre {n : Nat} : ∀ {a c : List Nat} {b : M}, live n b (a ++ c) → live n b a
  | [], _, _, _ => trivial
  | _ :: _, _, _, ⟨x, y, z, w⟩ => ⟨x, y, z, live_pre w⟩
theorem live_get {n i h : Nat} {b : M} {u : List Nat} (l : live n b u) (hu : u[i]? = some h) : (b.run (u.take i)).rests h = false ∧ ((b.run (u.take i)).step h).strayed = false := by
  have e : u = u.take (i + 1) ++ u.drop (i + 1) := (List.take_append_drop _ _).symm
  rw [e] at l
  have l2 := live_pre l
  rw [take_snoc hu] at l2
  exact (live_snoc.mp l2).2.2
theorem t_forT_of {K : PySem.W.Frag} {tl : TE} {g : TG} {tb : TS} {D : Ends} {s : L2.St} {H : Hp} (h : tl s H fun x H1 => tFor (iTup K (tC x)) g tb D s H1) : tFor (iTup K tl) g tb D s H := h
theorem t_forL_of {K : PySem.W.Frag} {tl : TE} {g : TG} {tb : TS} {D : Ends} {s : L2.St} {H : Hp} (h : tl s H fun x H1 => tFor (iList K (tC x)) g tb D s H1) : tFor (iList K tl) g tb D s H := h
theorem t_not_of' {t : TT} {s : L2.St} {H : Hp} {Q : Bool → Hp → Prop} (h : t s H fun c H1 => Q (!c) H1) : tNot t s H Q := h
theorem rests_ne' {t : Tell} (h : t ≠ .rests) : PyData.eqv (tellD t) (tellD .rests) = false := by
  cases t with
  | rests => exact absurd rfl h
  | misses => kernel_rfl
  | looks b => kernel_rfl
  | takes c => kernel_rfl
  | ends c => kernel_rfl
  | links c => kernel_rfl
  | marks c => kernel_rfl
  | reads c => kernel_rfl
  | follows c => kernel_rfl
  | exchanges c => kernel_rfl
theorem not_rests {m : M} {h : Nat} (ha : (m.hd h).at_ ≤ (m.prog h).length) (hr : m.rests h = false) : (m.turn h).1 ≠ .rests := by
  have mv := move m h
  intro e
  rw [e] at mv
  generalize m.step h = m' at mv
  cases mv with
  | rests hd =>
    unfold M.rests at hr
    have hl := List.getElem?_eq_none_iff.mp hd
    have h2 : (m.hd h).at_ ≠ (m.prog h).length := by simpa using hr
    omega
end SS


set_option Elab.async false
set_option linter.all false
set_option maxRecDepth 100000
set_option maxHeartbeats 4000000
namespace SS
open PySem L2
local macro_rules | `(tactic| walk_at "q") => `(tactic| ((try dsimp only); refine s_seq ?_))
def sp_law (Z : Cs) : Sp := fun vs H Q _ => ∃ (sc : Addr) (ns : List Int), vs = [.ref sc] ∧ ScrAt Z.K H sc (ns.map V.int) ∧ ns.length ≤ 63 ∧ ∀ H', Q (.bl true) H'
/-- law: 0 _law_script, 1 _law_d, 2 _law_values_here, 3 _law_programs, 4 _law_rule_here, 5 _law_fewer, 6 _law_row, 7 _law_one, 8 _law_two, 9 _law_weaving_here, 10 _law_short, 11 _law_long, 12 _law_k, 13 _law_alone -/
def t_law (Z : Cs) : TS :=
  tSeq (tAsg (tCall (sp_L_dice Z) [] E0 (tCons (tVar 0) tNil)) (gName 1))
    (tSeq (tAsg (tCall (sp_L_small_case Z) [] E0 (tCons (tVar 1) tNil)) (gTup Z.K 3 (gCons (gName 2) (gCons (gName 3) (gCons (gName 4) gNil)))))
    (tSeq (tAsg (tLc (iList Z.K (tVar 3)) (gName 6) tYes (tSl (rSlL Z.K) (tVar 6) tNoPart (tPart (tCB rMax2 (tCons (tC (.int 0)) (tCons (tOp rSubI (tCB (rLen1 Z.K) (tCons (tVar 6) tNil)) (tCall (sp_L_next Z) [] E0 (tCons (tVar 1) (tCons (tC (.int 2)) tNil)))) tNil))))) [6]) (gName 5))
    (tSeq (tPar 7 8 (tCons (tCall (sp_stale Z) [] E0 (tCons (tVar 2) (tCons (tVar 3) (tCons (tVar 4) tNil)))) (tCons (tCall (sp_stale Z) [] E0 (tCons (tVar 2) (tCons (tVar 5) (tCons (tVar 4) tNil)))) tNil)))
    (tSeq (tIfS (tTest (tOp rNotN (tVar 8) (tC .non))) (tSeq (tIfS ((tOr (tTest (tOp rIsN (tVar 7) (tC .non))) (tTest (tOp rGtI (tCB (rLen1 Z.K) (tCons (tVar 7) tNil)) (tCB (rLen1 Z.K) (tCons (tVar 8) tNil)))))) ((tRet (tC (.bl false)))) (tNext))
    ((tIfS (tTest (tOp (rNeD Z.K) (tCall (sp_played Z) [] E0 (tCons (tVar 2) (tCons (tVar 3) (tCons (tVar 4) (tCons (tVar 8) tNil))))) (tCall (sp_played Z) [] E0 (tCons (tVar 2) (tCons (tVar 5) (tCons (tVar 4) (tCons (tVar 8) tNil))))))) ((tRet (tC (.bl false)))) (tNext)))) (tNext))
    (tSeq (tAsg (tCall (sp_L_weaving Z) [] E0 (tCons (tVar 1) (tCons (tCB (rLen1 Z.K) (tCons (tVar 3) tNil)) (tCons (tC (.int 20)) tNil)))) (gName 9))
    (tSeq (tPar 10 11 (tCons (tCall (sp_played Z) [] E0 (tCons (tVar 2) (tCons (tVar 5) (tCons (tVar 4) (tCons (tVar 9) tNil))))) (tCons (tCall (sp_played Z) [] E0 (tCons (tVar 2) (tCons (tVar 3) (tCons (tVar 4) (tCons (tVar 9) tNil))))) tNil)))
    (tSeq (tFor (iRng1 (tCons (tCB (rLen1 Z.K) (tCons (tVar 9) tNil)) tNil)) (gName 12) ((tIfS ((tAnd (tTest (tOp (rNotInD Z.K) (tTup (tCons (tC (.str "rests")) tNil)) (tSl (rSlL Z.K) (tVar 10) tNoPart (tPart (tOp rAddI (tVar 12) (tC (.int 1))))))) (tTest (tOp (rNeD Z.K) (tOp (rIxL Z.K) (tVar 10) (tVar 12)) (tOp (rIxL Z.K) (tVar 11) (tVar 12)))))) ((tRet (tC (.bl false)))) (tNext))))
    (tSeq (tAsg (tOp rCat (tLst (tCons (tOp (rIxL Z.K) (tVar 3) (tC (.int 0))) tNil)) (tLc (iList Z.K (tSl (rSlL Z.K) (tVar 3) (tPart (tC (.int 1))) tNoPart)) (gName 6) tYes (tLst tNil) [6])) (gName 13))
    (tSeq (tIfS (tTest (tOp rNotN (tCall (sp_stale Z) [] E0 (tCons (tVar 2) (tCons (tVar 13) (tCons (tVar 4) tNil)))) (tC .non))) ((tRet (tC (.bl false)))) (tNext))
    (tSeq (tIfS (tTest (tOp rNotN (tCall (sp_stale Z) [] E0 (tCons (tVar 2) (tCons (tLc (iList Z.K (tVar 3)) (gName 6) tYes (tLst tNil) [6]) (tCons (tVar 4) tNil)))) (tC .non))) ((tRet (tC (.bl false)))) (tNext))
    ((tRet (tOrV (tOp rIsN (tVar 7) (tC .non)) (tOp rGtI (tCB (rLen1 Z.K) (tCons (tVar 7) tNil)) (tC (.int 4))))))))))))))))
/-! ### rows cut short -/
def CutOf (a b : List Deed) : Prop := ∃ k, a = b.take k
def RowAt (D : Addr) (H : Hp) (v : V) (ds : List Deed) : Prop := ∃ q, v = .ref q ∧ q ≠ D ∧ RowL H q ds
theorem RowAt.prog {D : Addr} {H : Hp} {v : V} {ds : List Deed} (h : RowAt D H v ds) : ProgAt H v ds := by
  obtain ⟨q, rfl, _, h⟩ := h
  exact h.prog
theorem e_fewer {Z : Cs} {s : L2.St} {H : Hp} {Q : VK} {lp d : Addr} {ps : List (List Deed)} (h1 : s[1]? = some (some (.ref d))) (h3 : s[3]? = some (some (.ref lp))) (h6 : 6 < s.length) (x : DiceAt Z.K H d) (hp : PgAt H lp ps) (p3 : ps.length ≤ 3) (p4 : ∀ p ∈ ps, p.length ≤ 4)
    (q : ∀ l ps' H', H l = none → Chg (Dc d) H H' → DiceAt Z.K H' d → PgAt H' l ps' → All2 CutOf ps' ps → Q (.ref l) H') :
    tLc (iList Z.K (tVar 3)) (gName 6) tYes (tSl (rSlL Z.K) (tVar 6) tNoPart (tPart (tCB rMax2 (tCons (tC (.int 0)) (tCons (tOp rSubI (tCB (rLen1 Z.K) (tCons (tVar 6) tNil)) (tCall (sp_L_next Z) [] E0 (tCons (tVar 1) (tCons (tC (.int 2)) tNil)))) tNil))))) [6] s H Q := by
  obtain ⟨us, g1, g2⟩ := id hp
  have ul := g2.length
  have nlp := PgAt.ne x g1 g2
  have xn : ∀ (y : V), ((wipe s [6]).set 6 (some y))[1]? = some (some (.ref d)) := fun y => by
    rw [List.getElem?_set_ne (by decide)]
    show (s.set 6 none)[1]? = _
    rw [List.getElem?_set_ne (by decide)]
    exact h1
  have x6 : ∀ (y : V), ((wipe s [6]).set 6 (some y))[6]? = some (some y) := fun y => by rw [List.getElem?_set_self (by rw [wipe_length]; exact h6)]
  refine e_lcL (ev_var h3) (SqL.of g1) (fun D i H' => Chg (Dc d) H H' ∧ DiceAt Z.K H' d ∧ ∃ (vs : List V) (qs : List (List Deed)), H' D = some (.lst vs) ∧ All2 (RowAt D H') vs qs ∧ All2 CutOf qs (ps.take i))
    (fun D hD => ⟨Chg.same (Same.new hD), x.same (Same.new hD), [], [], upd_same, .nil, by rw [List.take_zero]; exact .nil⟩) (fun D i H' _ _ p => SqL.of (p.1.ne g1 nlp)) (fun D i v H' hx hD p => ?_) (fun D H' hD p => ?_)
  · obtain ⟨c, x', vs, qs, gD, hv, hc⟩ := p
    have hi : i < us.length := (List.getElem?_eq_some_iff.mp hx).1
    have hg : ps[i]? = some (ps[i]'(by omega)) := List.getElem?_eq_getElem _
    generalize ps[i]'(by omega) = row at hg
    obtain ⟨u, hu, r0, rs, rfl, e3, e4⟩ := g2.get i hg
    rw [hx] at hu
    cases hu
    have rw0 : RowL H' r0 row := RowL.dice c x ⟨rs, e3, e4⟩
    obtain ⟨rs', e3', e4'⟩ := id rw0
    have nD := x.ne hD
    have hlen := p4 row (List.mem_of_getElem? hg)
    refine ⟨by simp only [wipe, List.set_set], et_yes _ (iteT ?_)⟩
    refine t_sl_of (ev_var (v := .ref r0) (x6 _) _ (t_cb_of (t_cons_of (ev_c _ (t_cons_of (t_op_of (ev_lenL (ev_var (v := .ref r0) (x6 _)) (SqL.of e3') _ (s_next (xn _) x' (ev_N 2 rfl) (by decide) (by decide) fun y H2 hy c2 x2 => ⟨_, _, rfl, rfl, ⟨0, _, rfl, ?_⟩⟩))))))))
    have rw2 := rw0.dice c2 x'
    obtain ⟨rs2, f3, f4⟩ := rw2
    have ek : ∃ k : Nat, (if (rs'.length : Int) - (y : Int) > 0 then (rs'.length : Int) - (y : Int) else 0) = (k : Int) := by
      split
      · exact ⟨((rs'.length : Int) - (y : Int)).toNat, by omega⟩
      · exact ⟨0, rfl⟩
    obtain ⟨kk, ek⟩ := ek
    refine ⟨(kk : Int), by rw [← ek], r0, rs2, rfl, SqL.of f3, fun p hp2 => ?_⟩
    rw [cut_take]
    have k3 : Same H2 (upd H2 p (.lst (rs2.take kk))) := Same.new hp2
    have rp : RowL (upd H2 p (.lst (rs2.take kk))) p (row.take kk) := ⟨_, upd_same, (f4.take kk).mono fun _ _ => DeedAt.mono fun b xs e => k3 _ _ e⟩
    have gD2 := c2.ne gD nD
    have npD : p ≠ D := fun e => by rw [e, gD2] at hp2; cases hp2
    have hv2 : All2 (RowAt D (upd H2 p (.lst (rs2.take kk)))) vs qs := hv.mono fun v ds ⟨q0, e, n, r⟩ => ⟨q0, e, n, (r.dice c2 x').same k3⟩
    have gD3 := k3 _ _ gD2
    have x3 := x2.same k3
    have cc := (c.trans c2).trans (Chg.same (F := Dc d) k3)
    generalize upd H2 p (.lst (rs2.take kk)) = H3 at k3 rp hv2 gD3 x3 cc ⊢
    refine ⟨vs, gD3, ?_, chg_fill cc hD, x3.fill gD3 nD, vs ++ [.ref p], qs ++ [row.take kk], upd_same, ?_, ?_⟩
    · rw [hv.length, hc.length, List.length_take]
      exact Nat.lt_of_le_of_lt (by omega : _ ≤ 3) (by decide)
    · exact (hv2.mono fun v ds ⟨q0, e, n, r⟩ => ⟨q0, e, n, r.put gD3 n⟩).snoc ⟨p, rfl, npD, rp.put gD3 npD⟩
    · rw [take_snoc hg]
      exact hc.snoc ⟨kk, rfl⟩
  · obtain ⟨c, x', vs, qs, gD, hv, hc⟩ := p
    rw [ul, List.take_length] at hc
    exact q D qs H' hD c x' ⟨vs, gD, hv.mono fun _ _ => RowAt.prog⟩ hc
/-- [[] for row in ..] -/
theorem e_nils {K : PySem.W.Frag} {s : L2.St} {H : Hp} {Q : VK} {a : Addr} {xs : List V} {k : Nat} (h : SqL K H a xs) (hl : xs.length ≤ 1000) (q : ∀ D H', H D = none → Same H H' → (∃ us, H' D = some (.lst us) ∧ All2 (RowAt D H') us (List.replicate xs.length [])) → Q (.ref D) H') :
    tLc (iList K (tC (.ref a))) (gName k) tYes (tLst tNil) [k] s H Q := by
  refine e_lcL ev_c h (fun D i H' => Same H H' ∧ ∃ us, H' D = some (.lst us) ∧ All2 (RowAt D H') us (List.replicate i [])) (fun D hD => ⟨Same.new hD, [], upd_same, .nil⟩) (fun D i H' _ _ p => Same.seq p.1 h) (fun D i x H' hx hD p => ?_) (fun D H' hD p => ?_)
  · obtain ⟨c, us, gD, hu⟩ := p
    have hi : i < xs.length := (List.getElem?_eq_some_iff.mp hx).1
    refine ⟨by simp only [wipe, List.set_set], et_yes _ (iteT (e_lst ea_nil (by show 0 ≤ 1000; decide) fun p hp => ?_))⟩
    have k2 : Same H' (upd H' p (.lst [])) := Same.new hp
    have npD : p ≠ D := fun e => by rw [e, gD] at hp; cases hp
    have rp : RowL (upd H' p (.lst [])) p [] := ⟨[], upd_same, .nil⟩
    have gD2 := k2 _ _ gD
    have hu2 : All2 (RowAt D (upd H' p (.lst []))) us (List.replicate i []) := hu.mono fun v ds ⟨q0, e, n, r⟩ => ⟨q0, e, n, r.same k2⟩
    generalize upd H' p (.lst []) = H2 at k2 rp gD2 hu2 ⊢
    refine ⟨us, gD2, ?_, same_newer (Same.trans c k2) hD, us ++ [.ref p], upd_same, ?_⟩
    · rw [hu.length, List.length_replicate]
      exact Nat.lt_of_le_of_lt (by omega : i ≤ 1000) (by decide)
    · rw [List.replicate_succ']
      exact (hu2.mono fun v ds ⟨q0, e, n, r⟩ => ⟨q0, e, n, r.put gD2 n⟩).snoc ⟨p, rfl, npD, rp.put gD2 npD⟩
  · exact q D H' hD p.1 p.2
theorem cuts_few {ps ps' : List (List Deed)} (h : All2 CutOf ps' ps) (fw : few ps) : ∃ a b : List Deed, (ps' = [a, b]) ∧ ((a.length ≤ 1 ∧ b.length ≤ 4) ∨ (a.length ≤ 4 ∧ b.length ≤ 1)) := by
  obtain ⟨a, b, rfl | rfl, h1, h2, h3⟩ := fw
  · cases h with
    | cons r t => cases t with
      | cons r2 t2 =>
        cases t2
        obtain ⟨k, rfl⟩ := r
        obtain ⟨k2, rfl⟩ := r2
        exact ⟨_, _, rfl, .inl ⟨by rw [List.length_take]; omega, by rw [List.length_take]; omega⟩⟩
  · cases h with
    | cons r t => cases t with
      | cons r2 t2 =>
        cases t2
        obtain ⟨k, rfl⟩ := r
        obtain ⟨k2, rfl⟩ := r2
        exact ⟨_, _, rfl, .inr ⟨by rw [List.length_take]; omega, by rw [List.length_take]; omega⟩⟩
theorem cuts_mem {ps ps' : List (List Deed)} (h : All2 CutOf ps' ps) : ∀ p ∈ ps', ∃ p0 ∈ ps, ∃ k, p = p0.take k := by
  induction h with
  | nil => exact fun p hp => by cases hp
  | cons r t ih =>
    intro p hp
    rcases List.mem_cons.mp hp with z | z
    · obtain ⟨k, e⟩ := r
      exact ⟨_, List.mem_cons_self, k, by rw [z, e]⟩
    · obtain ⟨p0, h0, k, e⟩ := ih p z
      exact ⟨p0, List.mem_cons_of_mem _ h0, k, e⟩
theorem cuts_ok {values : List Int} {ps ps' : List (List Deed)} {r : Rule} (h : All2 CutOf ps' ps) (ok : okIn values ps r) : okIn values ps' r := by
  have hl := h.length
  refine ⟨ok.vlen, ok.vals, by rw [hl]; exact ok.plen, fun p hp => ?_, fun p hp e he => ?_, by rw [hl]; exact ok.rule⟩
  · obtain ⟨p0, h0, k, rfl⟩ := cuts_mem h p hp
    rw [List.length_take]
    have := ok.dlen p0 h0
    omega
  · obtain ⟨p0, h0, k, rfl⟩ := cuts_mem h p hp
    exact ok.deeds p0 h0 e (List.mem_of_mem_take he)
theorem cuts_longer {values : List Int} {ps ps' : List (List Deed)} {r : Rule} (h : All2 CutOf ps' ps) : Longer (M.begin_ values ps' r) ps := by
  intro j i hi
  show (ps.getD j [])[i]? = (ps'.getD j [])[i]?
  have hi' : i < (ps'.getD j []).length := hi
  by_cases hj : j < ps'.length
  · have e1 : ps'[j]? = some ps'[j] := List.getElem?_eq_getElem hj
    have hl := h.length
    have e2 : ps[j]? = some (ps[j]'(by omega)) := List.getElem?_eq_getElem _
    obtain ⟨a, ha, k, e⟩ := h.get j e2
    have h1 : ps'.getD j [] = a := by rw [List.getD_eq_getElem?_getD, ha]; rfl
    have h2 : ps.getD j [] = ps[j]'(by omega) := by rw [List.getD_eq_getElem?_getD, e2]; rfl
    rw [h1] at hi'
    rw [h1, h2]
    rw [e] at hi' ⊢
    rw [List.length_take] at hi'
    rw [List.getElem?_take_of_lt (by omega)]
  · rw [List.getD_eq_getElem?_getD, List.getElem?_eq_none (by omega)] at hi'
    simp at hi'
theorem begin_re {values : List Int} {ps ps' : List (List Deed)} {r : Rule} (h : ps'.length = ps.length) : (M.begin_ values ps' r).re ps = M.begin_ values ps r := by
  have e : ∀ l : List (List Deed), l.map (fun _ => ({} : Hd)) = List.replicate l.length {} := fun l => by
    induction l with
    | nil => rfl
    | cons a l ih => rw [List.map_cons, ih]; rfl
  unfold M.re M.begin_
  simp only
  rw [e, e, h]
theorem t_lcL_of {K : PySem.W.Frag} {tl te : TE} {tt : TT} {g : TG} {ws : List Nat} {s : L2.St} {H : Hp} {Q : VK} (h : tl s H fun x H1 => tLc (iList K (tC x)) g tt te ws s H1 Q) : tLc (iList K tl) g tt te ws s H Q := h
theorem t_slF_of {r : V → Option Int → Option Int → Hp → VK → Prop} {te tp : TE} {s : L2.St} {H : Hp} {Q : VK} (h : te s H fun x H1 => tp s H1 fun y H2 => ∃ i, y = .int i ∧ r x (some i) none H2 Q) : tSl r te (tPart tp) tNoPart s H Q := h
theorem OptAt.len {K : PySem.W.Frag} {H H1 H2 : Hp} {s : L2.St} {te : TE} {v : V} {ws : List Nat} (o : OptAt H H1 v (some ws)) (c : Same H1 H2) (e : Ev te s H2 v) : Ev (tCB (rLen1 K) (tCons te tNil)) s H2 (.int (ws.length : Nat)) := by
  obtain ⟨l, rfl, _, g⟩ := o
  exact ev_is (ev_lenL e (SqL.of (c _ _ g))) (by rw [List.length_map])
theorem none_of {n : Nat} {b : M} {x : Option (List Nat)} (F : Found n b x) (h : ∀ w, ¬ Stale n b w) : x = none := by
  cases x with
  | none => rfl
  | some w => exact absurd F.1 (h w)
theorem pure_law {Z : Cs} (k : ZOk Z) (vs : List V) (H : Hp) (Q : VK) (E : XK) (h : sp_law Z vs H Q E) : t_law Z { nx := fun _ H' => Q .non H', rt := Q } (start ["_law_script", "_law_d", "_law_values_here", "_law_programs", "_law_rule_here", "_law_fewer", "_law_row", "_law_one", "_law_two", "_law_weaving_here", "_law_short", "_law_long", "_law_k", "_law_alone"] vs) H := by
  obtain ⟨sc, ns, rfl, hsc, hns, q⟩ := h
  unfold t_law
  walk_at "q"
  refine s_asg_of (s_call (ea_cons (ev_var rfl) ea_nil) ⟨sc, ns, rfl, hsc, fun d H1 fd s1 x1 => ?_⟩)
  show ({ nx := _, rt := Q : Ends }).nx _ _
  walk_at "q"
  refine s_asg_of (s_call (ea_cons (ev_var rfl) ea_nil) ⟨d, rfl, x1, fun t lv lp lr values ps r H2 c2 x2 ht hlv hlp gv gp gr ok fw => ⟨t, _, rfl, SqT.of ht, rfl, _, _, rfl, _, _, rfl, _, _, rfl, rfl, ?_⟩⟩)
  show ({ nx := _, rt := Q : Ends }).nx _ _
  have S2 : SmAt Z H2 d lv lp lr values ps r := ⟨x2, gv, gp, gr, x1.ne hlv⟩
  clear ht gv gp gr x2 c2 hlv hlp x1 s1 fd
  have n2 := fw.len.1
  have cap := fw.cap
  have fb := Fine.begin_ ok
  walk_at "q"
  refine s_asg_of (e_fewer rfl rfl (by show 6 < 14; decide) S2.x S2.p (by omega) fw.len.2 fun lf ps' H3 hlf c3 x3 p3 cut => ?_)
  have S3 := S2.dice c3 x3
  have ok' := cuts_ok cut ok
  have hpl := cut.length
  obtain ⟨pa, pb, eps, hab⟩ := cuts_few cut fw
  have cap' : cnt (6 + total ps') 1000 (kinds ps') 1 0 ≤ capN := by
    rw [eps]
    exact cap_two hab
  have lng := cuts_longer (values := values) (r := r) cut
  have bre := begin_re (values := values) (r := r) hpl
  have fb' := Fine.begin_ ok'
  show ({ nx := _, rt := Q : Ends }).nx _ _
  walk_at "q"
  refine s_par_of (t_cons_of (s_stale (ea_cons (ev_var rfl) (ea_cons (ev_var rfl) (ea_cons (ev_var rfl) ea_nil))) (SqL.of S3.v) S3.p.progs S3.r ok cap fun o1 v1 H4 k4 F1 O1 => t_cons_of (s_stale (ps := ps') (ea_cons (ev_var rfl) (ea_cons (ev_var rfl) (ea_cons (ev_var rfl) ea_nil))) (SqL.of (S3.same k4).v) (p3.same k4).progs (S3.same k4).r ok' cap' fun o2 v2 H5 k5 F2 O2 => ⟨_, _, rfl, ?_⟩)))
  have S5 := (S3.same k4).same k5
  have p5 := (p3.same k4).same k5
  show ({ nx := _, rt := Q : Ends }).nx _ _
  have n3 : lf ≠ d := S2.x.ne hlf
  clear S3 p3 S2 c3 x3
  walk_at "q"
  -- behind the first part
  have main : ∀ H6, Same H5 H6 → (tSeq (tAsg (tCall (sp_L_weaving Z) [] E0 (tCons (tVar 1) (tCons (tCB (rLen1 Z.K) (tCons (tVar 3) tNil)) (tCons (tC (.int 20)) tNil)))) (gName 9))
    (tSeq (tPar 10 11 (tCons (tCall (sp_played Z) [] E0 (tCons (tVar 2) (tCons (tVar 5) (tCons (tVar 4) (tCons (tVar 9) tNil))))) (tCons (tCall (sp_played Z) [] E0 (tCons (tVar 2) (tCons (tVar 3) (tCons (tVar 4) (tCons (tVar 9) tNil))))) tNil)))
    (tSeq (tFor (iRng1 (tCons (tCB (rLen1 Z.K) (tCons (tVar 9) tNil)) tNil)) (gName 12) ((tIfS ((tAnd (tTest (tOp (rNotInD Z.K) (tTup (tCons (tC (.str "rests")) tNil)) (tSl (rSlL Z.K) (tVar 10) tNoPart (tPart (tOp rAddI (tVar 12) (tC (.int 1))))))) (tTest (tOp (rNeD Z.K) (tOp (rIxL Z.K) (tVar 10) (tVar 12)) (tOp (rIxL Z.K) (tVar 11) (tVar 12)))))) ((tRet (tC (.bl false)))) (tNext))))
    (tSeq (tAsg (tOp rCat (tLst (tCons (tOp (rIxL Z.K) (tVar 3) (tC (.int 0))) tNil)) (tLc (iList Z.K (tSl (rSlL Z.K) (tVar 3) (tPart (tC (.int 1))) tNoPart)) (gName 6) tYes (tLst tNil) [6])) (gName 13))
    (tSeq (tIfS (tTest (tOp rNotN (tCall (sp_stale Z) [] E0 (tCons (tVar 2) (tCons (tVar 13) (tCons (tVar 4) tNil)))) (tC .non))) ((tRet (tC (.bl false)))) (tNext))
    (tSeq (tIfS (tTest (tOp rNotN (tCall (sp_stale Z) [] E0 (tCons (tVar 2) (tCons (tLc (iList Z.K (tVar 3)) (gName 6) tYes (tLst tNil) [6]) (tCons (tVar 4) tNil)))) (tC .non))) ((tRet (tC (.bl false)))) (tNext))
    ((tRet (tOrV (tOp rIsN (tVar 7) (tC .non)) (tOp rGtI (tCB (rLen1 Z.K) (tCons (tVar 7) tNil)) (tC (.int 4)))))))))))) { nx := fun _ H' => Q .non H', rt := Q }
      [some (V.ref sc), some (.ref d), some (.ref lv), some (.ref lp), some (.ref lr), some (.ref lf), none, some v1, some v2, none, none, none, none, none] H6 := by
    intro H6 k6
    have S6 := S5.same k6
    have p6 := p5.same k6
    have k46 := Same.trans k5 k6
    walk_at "q"
    refine s_asg_of (s_call (ea_cons (ev_var rfl) (ea_cons (S6.p.len (ev_var rfl)) (ea_cons (ev_N 20 rfl) ea_nil))) ⟨d, ps.length, 20, rfl, S6.x, by omega, by omega, by decide, by decide, fun lw w H7 hlw c7 x7 hw hh wl => ?_⟩)
    have S7 := S6.dice c7 x7
    have p7 := p6.dice c7 S6.x
    have n7 : lw ≠ d := S6.x.ne hlw
    show ({ nx := _, rt := Q : Ends }).nx _ _
    walk_at "q"
    have hh' : ∀ h ∈ w, h < ps'.length := fun h hm => by rw [hpl]; exact hh h hm
    refine s_par_of (t_cons_of (s_call (ea_cons (ev_var rfl) (ea_cons (ev_var rfl) (ea_cons (ev_var rfl) (ea_cons (ev_var rfl) ea_nil)))) ⟨lv, lf, lr, lw, values, ps', r, w, rfl, SqL.of S7.v, p7.progs, S7.r, ok', SqL.of hw, hh', by omega, fun ls us8 H8 _ k8 gs hs => ?_⟩))
    have S8 := S7.same k8
    have hw8 := k8 _ _ hw
    refine t_cons_of (s_call (ea_cons (ev_var rfl) (ea_cons (ev_var rfl) (ea_cons (ev_var rfl) (ea_cons (ev_var rfl) ea_nil)))) ⟨lv, lp, lr, lw, values, ps, r, w, rfl, SqL.of S8.v, S8.p.progs, S8.r, ok, SqL.of hw8, hh, by omega, fun ll us9 H9 _ k9 gl hl => ⟨_, _, rfl, ?_⟩⟩)
    have S9 := S8.same k9
    have hw9 := k9 _ _ hw8
    have gs9 := k9 _ _ gs
    have hs9 := hs.mono fun _ _ => TellAt.mono fun b xs e => k9 _ _ e
    show ({ nx := _, rt := Q : Ends }).nx _ _
    walk_at "q"
    refine s_forR (n := w.length) (ev_is (ev_lenL (ev_var rfl) (SqL.of hw9)) (by rw [List.length_map])) (by omega) (fun i s' H' => ∃ y : Option V, s' = [some (V.ref sc), some (.ref d), some (.ref lv), some (.ref lp), some (.ref lr), some (.ref lf), none, some v1, some v2, some (.ref lw), some (.ref ls), some (.ref ll), y, none] ∧ Same H9 H')
      ⟨none, rfl, Same.refl _⟩ (fun i s' H' hi p => ?_) (fun s' H10 p => ?_)
    · obtain ⟨y, rfl, c⟩ := p
      refine s_if_of (t_and_of (t_test_of (t_op_of (e_tup (ea_cons ev_c ea_nil) (by show 1 ≤ 1000; decide) fun p hp => ?_))))
      have k10 : Same H' (upd H' p (.tup [.str "rests"])) := Same.new hp
      have g10 : (upd H' p (.tup [.str "rests"])) p = some (.tup [.str "rests"]) := upd_same
      generalize upd H' p (.tup [.str "rests"]) = H10 at k10 g10 ⊢
      have c10 := Same.trans c k10
      refine t_sl_of (ev_var (v := .ref ls) rfl _ (ev_add (ev_var (v := .int (i : Nat)) rfl) ev_c _ ⟨((i + 1 : Nat) : Int), by simp, ls, us8, rfl, SqL.of (c10 _ _ gs9), fun p2 hp2 => ?_⟩))
      rw [cut_take]
      have k11 : Same H10 (upd H10 p2 (.lst (us8.take (i + 1)))) := Same.new hp2
      have g11 : (upd H10 p2 (.lst (us8.take (i + 1)))) p2 = some (.lst (us8.take (i + 1))) := upd_same
      generalize upd H10 p2 (.lst (us8.take (i + 1))) = H11 at k11 g11 ⊢
      have c11 := Same.trans c10 k11
      have hs11 := hs9.mono fun _ _ => TellAt.mono fun b xs e => c11 _ _ e
      have hl11 := hl.mono fun _ _ => TellAt.mono fun b xs e => c11 _ _ e
      refine ⟨tellD .rests, (((M.begin_ values ps' r).tells w).take (i + 1)).map tellD, (show TellAt H11 (.ref p) .rests from ⟨p, rfl, k11 _ _ g10⟩).dp, .lst (SqL.of g11) (by rw [List.map_take]; exact dp_take _ (tells_dp hs11)), (okD_tell _).shaped (by decide), (okD_tells _).shaped (by decide), ⟨_, rfl, ?_⟩⟩
      cases em : (((((M.begin_ values ps' r).tells w).take (i + 1)).map tellD).any fun z => PyData.eqv z (tellD .rests)) with
      | true => exact iteF (iteF ⟨_, rfl, c11⟩)
      | false =>
        refine iteT (t_test_of (t_op_of ?_))
        have hi1 : i < ((M.begin_ values ps' r).tells w).length := by rw [tells_len]; exact hi
        have e1 : ((M.begin_ values ps' r).tells w)[i]? = some (((M.begin_ values ps' r).tells w)[i]) := List.getElem?_eq_getElem hi1
        generalize ((M.begin_ values ps' r).tells w)[i] = t1 at e1
        have e2 := re_tells (ps := ps') (P := ps) i fb' hh' lng (fun x hx e => by
          rw [e] at hx
          have h1 := List.any_eq_false.mp em (tellD .rests) (List.mem_map.mpr ⟨_, hx, rfl⟩)
          rw [SeqAt.eqv_refl _ (okD_tell _).1] at h1
          exact h1 rfl) e1
        rw [bre] at e2
        obtain ⟨u1, hu1, t1'⟩ := hs11.get i e1
        obtain ⟨u2, hu2, t2'⟩ := hl11.get i e2
        refine ev_ixL (ev_var (v := .ref ls) rfl) (ev_var (v := .int (i : Nat)) rfl) (SqL.of (c11 _ _ gs9)) (atI_nat hu1) _ (ev_ixL (ev_var (v := .ref ll) rfl) (ev_var (v := .int (i : Nat)) rfl) (SqL.of (c11 _ _ gl)) (atI_nat hu2) _ ?_)
        exact ne_same t1'.dp t2'.dp (okD_tell _) (by decide) ⟨false, rfl, iteF ⟨_, rfl, c11⟩⟩
    · obtain ⟨y, rfl, c⟩ := p
      have S10 := S9.same c
      have O1' : OptAt H3 H10 v1 o1 := by
        have kk : ∀ l o, H4 l = some o → H10 l = some o ∨ l = d := fun l o e => by
          by_cases z : l = d
          · exact .inr z
          · exact .inl (c _ _ (k9 _ _ (k8 _ _ (c7.keep _ _ (k46 _ _ e) z))))
        cases o1 with
        | none => exact O1
        | some ws =>
          obtain ⟨l, e, hl1, g⟩ := O1
          refine ⟨l, e, hl1, ?_⟩
          rcases kk l _ g with z | z
          · exact z
          · have hx := S5.x
            obtain ⟨sc0, ns0, a0, b0, c0, hd0, _⟩ := hx
            have := k5 _ _ g
            rw [z, hd0] at this
            have : [V.ref sc0, .int a0, .int b0, .int c0] = ws.map natV := by injection this with this; injection this
            cases ws with
            | nil => cases this
            | cons w0 ws => injection this with h1 _; cases h1
      clear S9 hw9 gs9 hs9 gl hl hw8 gs hs S8 S7 p7
      dsimp only
      walk_at "q"
      -- one hand alone
      obtain ⟨pus, gp, hp⟩ := id S10.p
      have pl := hp.length
      obtain ⟨u0, u1, epu⟩ : ∃ u0 u1, pus = [u0, u1] := by
        have : pus.length = 2 := by omega
        match pus, this with
        | [a, b], _ => exact ⟨a, b, rfl⟩
      obtain ⟨b0, b1, epb⟩ : ∃ b0 b1, ps = [b0, b1] := by
        match ps, n2 with
        | [a, b], _ => exact ⟨a, b, rfl⟩
      subst epu
      refine s_asg_of (t_op_of (t_lst_of (t_cons_of (ev_ixL (v := u0) (ev_var (v := .ref lp) rfl) ev_c (SqL.of gp) (atI_nat (j := 0) rfl) _ ⟨by show 1 ≤ sizeLine; decide, fun l1 hl1 => ?_⟩))))
      have k11 : Same H10 (upd H10 l1 (.lst [u0])) := Same.new hl1
      have g11 : (upd H10 l1 (.lst [u0])) l1 = some (.lst [u0]) := upd_same
      generalize upd H10 l1 (.lst [u0]) = H11 at k11 g11 ⊢
      refine t_lcL_of (t_slF_of (ev_var (v := .ref lp) rfl _ (ev_c _ ⟨1, rfl, lp, _, rfl, SqL.of (k11 _ _ gp), fun p2 hp2 => ?_⟩)))
      rw [show cutV [u0, u1] (some 1) none = [u1] from cut_drop 1 (by show 1 ≤ 2; decide)]
      have k12 : Same H11 (upd H11 p2 (.lst [u1])) := Same.new hp2
      have g12 : (upd H11 p2 (.lst [u1])) p2 = some (.lst [u1]) := upd_same
      generalize upd H11 p2 (.lst [u1]) = H12 at k12 g12 ⊢
      refine e_nils (SqL.of g12) (by show 1 ≤ 1000; decide) fun D H13 hD k13 hn => ?_
      obtain ⟨nus, gD, hnu⟩ := hn
      have k1013 := Same.trans (Same.trans k11 k12) k13
      refine ⟨l1, D, [u0], nus, rfl, rfl, k13 _ _ (k12 _ _ g11), gD, ?_, fun p4 hp4 => ?_⟩
      · have := hnu.length
        rw [this]
        exact (by decide : 2 ≤ sizeLine)
      have k14 : Same H13 (upd H13 p4 (.lst ([u0] ++ nus))) := Same.new hp4
      have g14 : (upd H13 p4 (.lst ([u0] ++ nus))) p4 = some (.lst ([u0] ++ nus)) := upd_same
      generalize upd H13 p4 (.lst ([u0] ++ nus)) = H14 at k14 g14 ⊢
      have k1014 := Same.trans k1013 k14
      have S14 := S10.same k1014
      have pA : PgAt H14 p4 [b0, []] := by
        rw [epb] at hp
        cases hp with
        | cons r1 t1 => exact ⟨_, g14, .cons (r1.same k1014) (hnu.mono fun v ds h => ProgAt.same k14 (RowAt.prog h))⟩
      have okA : okIn values [b0, []] r := by
        refine ⟨ok.vlen, ok.vals, ⟨by show 1 ≤ 2; decide, by show 2 ≤ 3; decide⟩, fun p hp => ?_, fun p hp e he => ?_, by have := ok.rule; rw [n2] at this; exact this⟩
        · simp only [List.mem_cons, List.not_mem_nil, or_false] at hp
          rcases hp with rfl | rfl
          · exact ok.dlen _ (by rw [epb]; simp)
          · exact Nat.zero_le _
        · simp only [List.mem_cons, List.not_mem_nil, or_false] at hp
          rcases hp with rfl | rfl
          · exact ok.deeds _ (by rw [epb]; simp) e he
          · cases he
      have alone : ∀ (p : List Deed) (x : Option (List Nat)), okIn values [p, []] r → Found 2 (M.begin_ values [p, []] r) x → x = none := fun p x okp F => none_of F fun w z => by
        have h1 := alone_never (h := 0) okp (by show 0 < 2; omega) (fun j hj => by
          match j, hj with
          | 1, _ => rfl
          | j + 2, _ => rfl) z.range
        rw [z.strayed] at h1
        cases h1
      show ({ nx := _, rt := Q : Ends }).nx _ _
      walk_at "q"
      refine s_if_of (t_test_of (t_op_of (s_stale (ps := [b0, []]) (ea_cons (ev_var rfl) (ea_cons (ev_var rfl) (ea_cons (ev_var rfl) ea_nil))) (SqL.of S14.v) pA.progs S14.r okA (cap_two (.inr ⟨ok.dlen _ (by rw [epb]; simp), Nat.zero_le _⟩)) fun x v H15 k15 F o => ev_c _ ⟨rfl, _, rfl, ?_⟩)))
      rw [alone b0 x okA F] at o
      rw [show v = .non from o]
      refine iteF ?_
      dsimp only [tNext]
      walk_at "q"
      have S15 := S14.same k15
      obtain ⟨pus2, gp2, hp2'⟩ := id S15.p
      refine s_if_of (t_test_of (t_op_of (t_call_of (t_cons_of (ev_var (v := .ref lv) rfl _ (t_cons_of (t_lcL_of (ev_var (v := .ref lp) rfl _ (e_nils (SqL.of gp2) (by rw [hp2'.length]; omega) fun D2 H16 hD2 k16 hn2 => t_cons_of (ev_var (v := .ref lr) rfl _ ?_))))))))))
      have S16 := S15.same k16
      have el : pus2.length = 2 := by rw [hp2'.length]; exact n2
      obtain ⟨nus2, gD2, hnu2⟩ := hn2
      rw [el] at hnu2
      have pE : PgAt H16 D2 [[], []] := ⟨_, gD2, hnu2.mono fun v ds h => RowAt.prog h⟩
      have okE : okIn values [[], []] r := ⟨ok.vlen, ok.vals, ⟨by decide, by decide⟩, (fun p hp => by simp at hp; rw [hp]; exact Nat.zero_le _), (fun p hp e he => by simp at hp; rw [hp] at he; cases he), by have := ok.rule; rw [n2] at this; exact this⟩
      refine ⟨lv, D2, lr, values, [[], []], r, rfl, SqL.of S16.v, pE.progs, S16.r, okE, cap_two (.inl ⟨Nat.zero_le _, Nat.zero_le _⟩), fun x v H17 k17 F o => ev_c _ ⟨rfl, _, rfl, ?_⟩⟩
      rw [alone [] x okE F] at o
      rw [show v = .non from o]
      refine iteF ?_
      dsimp only [tNext]
      have k1017 := Same.trans (Same.trans (Same.trans k1014 k15) k16) k17
      cases o1 with
      | none =>
        rw [show v1 = .non from O1]
        exact s_ret_of (ev_isN (ev_var rfl) _ ⟨true, rfl, q _⟩)
      | some ws =>
        have hlen := stale_long ok F1.1
        have ev7 : ∀ {s : L2.St}, s[7]? = some (some v1) → Ev (tVar 7) s H17 v1 := fun e => ev_var e
        obtain ⟨l, rfl, _, g⟩ := O1'
        refine s_ret_of (ev_isN (ev_var (v := .ref l) rfl) _ ⟨false, rfl, ?_⟩)
        refine ev_is (ev_gt (ev_is (ev_lenL (ev_var (v := .ref l) rfl) (SqL.of (k1017 _ _ g))) (by rw [List.length_map])) ev_c) ?_ _ (q _)
        rw [decide_eq_true (by omega)]
  cases o2 with
  | none =>
    rw [show v2 = .non from O2]
    refine s_ifF (et_is (et_test (ev_notN (ev_var rfl))) rfl) ?_
    rw [show v2 = .non from O2] at main
    exact main H5 (Same.refl _)
  | some w2 =>
    obtain ⟨z1, z2⟩ := re_stale fb' lng F2.1
    rw [bre, hpl] at z1
    rw [bre] at z2
    have fl := F2.1.len fb'
    have rg2 := F2.1.range
    have nn2 : v2 ≠ .non := by
      obtain ⟨l, rfl, _⟩ := O2
      exact fun e => by cases e
    refine s_ifT (et_is (et_test (ev_notN (ev_var (v := v2) rfl))) (by rw [decide_eq_false nn2]; rfl)) ?_
    walk_at "q"
    cases o1 with
    | none => exact absurd z1 (F1 w2)
    | some w1 =>
      have sl := F1.2 w2 z1
      have lle : w1.length ≤ w2.length := by
        rcases sl with z | ⟨z, _⟩ <;> omega
      have nn1 : v1 ≠ .non := by
        obtain ⟨l, rfl, _⟩ := O1
        exact fun e => by cases e
      refine s_ifF (et_is (et_or (et_test (ev_isN (ev_var (v := v1) rfl))) fun _ => et_test (ev_gt (O1.len k5 (ev_var rfl)) (O2.len (Same.refl _) (ev_var rfl)))) ?_) ?_
      · rw [decide_eq_false nn1, decide_eq_false (by omega)]
        rfl
      dsimp only [tNext]
      obtain ⟨l2, rfl, _, g2⟩ := O2
      have rg1 : ∀ h ∈ w2, h < ps.length := fun h hm => by rw [← hpl]; exact rg2 h hm
      refine s_if_of (t_test_of (t_op_of (s_call (ea_cons (ev_var rfl) (ea_cons (ev_var rfl) (ea_cons (ev_var rfl) (ea_cons (ev_var (v := .ref l2) rfl) ea_nil)))) ⟨lv, lp, lr, l2, values, ps, r, w2, rfl, SqL.of S5.v, S5.p.progs, S5.r, ok, SqL.of g2, rg1, by omega, fun l3 us3 H6 _ k6 g3 h3 => ?_⟩)))
      have S6 := S5.same k6
      refine s_call (ea_cons (ev_var rfl) (ea_cons (ev_var rfl) (ea_cons (ev_var rfl) (ea_cons (ev_var (v := .ref l2) rfl) ea_nil)))) ⟨lv, lf, lr, l2, values, ps', r, w2, rfl, SqL.of S6.v, (p5.same k6).progs, S6.r, ok', SqL.of (k6 _ _ g2), rg2, by omega, fun l4 us4 H7 _ k7 g4 h4 => ?_⟩
      rw [z2] at h3
      exact ne_skip (d := .list (((M.begin_ values ps' r).tells w2).map tellD)) (n := 2) (.lst (SqL.of (k7 _ _ g3)) (tells_dp (h3.mono fun _ _ => TellAt.mono fun b xs e => k7 _ _ e))) (.lst (SqL.of g4) (tells_dp h4)) (okD_tells _) (by decide) (main H7 (Same.trans k6 k7))
end SS

namespace SS
open PySem L2
theorem len_need_values {Z : Cs} {vs : List V} {H : Hp} {Q : VK} {E : XK} (h : sp_need_values Z vs H Q E) : vs.length = 1 := by
  obtain ⟨_, _, rfl, _⟩ := h
  rfl
theorem len_is_deed {Z : Cs} {vs : List V} {H : Hp} {Q : VK} {E : XK} (h : sp_is_deed Z vs H Q E) : vs.length = 1 := by
  obtain ⟨_, _, rfl, _⟩ := h
  rfl
theorem len_need_deeds {Z : Cs} {vs : List V} {H : Hp} {Q : VK} {E : XK} (h : sp_need_deeds Z vs H Q E) : vs.length = 2 := by
  obtain ⟨_, _, _, rfl, _⟩ := h
  rfl
theorem len_need_programs {Z : Cs} {vs : List V} {H : Hp} {Q : VK} {E : XK} (h : sp_need_programs Z vs H Q E) : vs.length = 1 := by
  obtain ⟨_, _, rfl, _⟩ := h
  rfl
theorem len_need_rule {Z : Cs} {vs : List V} {H : Hp} {Q : VK} {E : XK} (h : sp_need_rule Z vs H Q E) : vs.length = 2 := by
  obtain ⟨_, _, _, rfl, _⟩ := h
  rfl
theorem len_H_init {Z : Cs} {vs : List V} {H : Hp} {Q : VK} {E : XK} (h : sp_H_init Z vs H Q E) : vs.length = 2 := by
  obtain ⟨_, _, _, _, _, rfl, _⟩ := h
  rfl
theorem len_M_init {Z : Cs} {vs : List V} {H : Hp} {Q : VK} {E : XK} (h : sp_M_init Z vs H Q E) : vs.length = 4 := by
  obtain ⟨_, _, _, _, _, _, _, _, rfl, _⟩ := h
  rfl
theorem len_M_need_hand {Z : Cs} {vs : List V} {H : Hp} {Q : VK} {E : XK} (h : sp_M_need_hand Z vs H Q E) : vs.length = 2 := by
  obtain ⟨_, _, _, _, rfl, _⟩ := h
  rfl
theorem len_M_rests {Z : Cs} {vs : List V} {H : Hp} {Q : VK} {E : XK} (h : sp_M_rests Z vs H Q E) : vs.length = 2 := by
  obtain ⟨_, _, _, _, rfl, _⟩ := h
  rfl
theorem len_M_marks {Z : Cs} {vs : List V} {H : Hp} {Q : VK} {E : XK} (h : sp_M_marks Z vs H Q E) : vs.length = 1 := by
  obtain ⟨_, _, rfl, _⟩ := h
  rfl
theorem len_M_taken {Z : Cs} {vs : List V} {H : Hp} {Q : VK} {E : XK} (h : sp_M_taken Z vs H Q E) : vs.length = 2 := by
  obtain ⟨_, _, _, rfl, _⟩ := h
  rfl
theorem len_M_forget {Z : Cs} {vs : List V} {H : Hp} {Q : VK} {E : XK} (h : sp_M_forget Z vs H Q E) : vs.length = 2 := by
  obtain ⟨_, _, _, _, rfl, _⟩ := h
  rfl
theorem len_M_ended {Z : Cs} {vs : List V} {H : Hp} {Q : VK} {E : XK} (h : sp_M_ended Z vs H Q E) : vs.length = 3 := by
  obtain ⟨_, _, _, _, _, rfl, _⟩ := h
  rfl
theorem len_M_read {Z : Cs} {vs : List V} {H : Hp} {Q : VK} {E : XK} (h : sp_M_read Z vs H Q E) : vs.length = 2 := by
  obtain ⟨_, _, _, _, _, rfl, _⟩ := h
  rfl
theorem len_M_exchange {Z : Cs} {vs : List V} {H : Hp} {Q : VK} {E : XK} (h : sp_M_exchange Z vs H Q E) : vs.length = 3 := by
  obtain ⟨_, _, _, _, _, rfl, _⟩ := h
  rfl
theorem len_M_push {Z : Cs} {vs : List V} {H : Hp} {Q : VK} {E : XK} (h : sp_M_push Z vs H Q E) : vs.length = 2 := by
  obtain ⟨_, _, _, _, _, _, rfl, _⟩ := h
  rfl
theorem len_M_guard {Z : Cs} {vs : List V} {H : Hp} {Q : VK} {E : XK} (h : sp_M_guard Z vs H Q E) : vs.length = 3 := by
  obtain ⟨_, _, _, _, _, rfl, _⟩ := h
  rfl
theorem len_M_pop {Z : Cs} {vs : List V} {H : Hp} {Q : VK} {E : XK} (h : sp_M_pop Z vs H Q E) : vs.length = 2 := by
  obtain ⟨_, _, _, _, _, _, rfl, _⟩ := h
  rfl
theorem len_M_turn {Z : Cs} {vs : List V} {H : Hp} {Q : VK} {E : XK} (h : sp_M_turn Z vs H Q E) : vs.length = 2 := by
  obtain ⟨_, _, _, rfl, _⟩ := h
  rfl
theorem len_M_is_done {Z : Cs} {vs : List V} {H : Hp} {Q : VK} {E : XK} (h : sp_M_is_done Z vs H Q E) : vs.length = 1 := by
  obtain ⟨_, _, rfl, _⟩ := h
  rfl
theorem len_M_is_stale {Z : Cs} {vs : List V} {H : Hp} {Q : VK} {E : XK} (h : sp_M_is_stale Z vs H Q E) : vs.length = 1 := by
  obtain ⟨_, _, rfl, _⟩ := h
  rfl
theorem len_M_answers {Z : Cs} {vs : List V} {H : Hp} {Q : VK} {E : XK} (h : sp_M_answers Z vs H Q E) : vs.length = 2 := by
  obtain ⟨_, _, _, _, rfl, _⟩ := h
  rfl
theorem len_M_marked {Z : Cs} {vs : List V} {H : Hp} {Q : VK} {E : XK} (h : sp_M_marked Z vs H Q E) : vs.length = 2 := by
  obtain ⟨_, _, _, _, rfl, _⟩ := h
  rfl
theorem len_M_order {Z : Cs} {vs : List V} {H : Hp} {Q : VK} {E : XK} (h : sp_M_order Z vs H Q E) : vs.length = 1 := by
  obtain ⟨_, _, rfl, _⟩ := h
  rfl
theorem len_M_free {Z : Cs} {vs : List V} {H : Hp} {Q : VK} {E : XK} (h : sp_M_free Z vs H Q E) : vs.length = 1 := by
  obtain ⟨_, _, rfl, _⟩ := h
  rfl
theorem len_M_top_now {Z : Cs} {vs : List V} {H : Hp} {Q : VK} {E : XK} (h : sp_M_top_now Z vs H Q E) : vs.length = 1 := by
  obtain ⟨_, _, rfl, _⟩ := h
  rfl
theorem len_M_nexts {Z : Cs} {vs : List V} {H : Hp} {Q : VK} {E : XK} (h : sp_M_nexts Z vs H Q E) : vs.length = 1 := by
  obtain ⟨_, _, rfl, _⟩ := h
  rfl
theorem len_M_pile {Z : Cs} {vs : List V} {H : Hp} {Q : VK} {E : XK} (h : sp_M_pile Z vs H Q E) : vs.length = 1 := by
  obtain ⟨_, _, rfl, _⟩ := h
  rfl
theorem len_M_pile_values {Z : Cs} {vs : List V} {H : Hp} {Q : VK} {E : XK} (h : sp_M_pile_values Z vs H Q E) : vs.length = 1 := by
  obtain ⟨_, _, rfl, _⟩ := h
  rfl
theorem len_serial {Z : Cs} {vs : List V} {H : Hp} {Q : VK} {E : XK} (h : sp_serial Z vs H Q E) : vs.length = 2 := by
  obtain ⟨_, _, _, _, _, rfl, _⟩ := h
  rfl
theorem len_played {Z : Cs} {vs : List V} {H : Hp} {Q : VK} {E : XK} (h : sp_played Z vs H Q E) : vs.length = 4 := by
  obtain ⟨_, _, _, _, _, _, _, _, rfl, _⟩ := h
  rfl
theorem len_whole {Z : Cs} {vs : List V} {H : Hp} {Q : VK} {E : XK} (h : sp_whole Z vs H Q E) : vs.length = 4 := by
  obtain ⟨_, _, _, _, _, _, _, _, rfl, _⟩ := h
  rfl
theorem len_H_twin {Z : Cs} {vs : List V} {H : Hp} {Q : VK} {E : XK} (h : sp_H_twin Z vs H Q E) : vs.length = 1 := by
  obtain ⟨_, _, _, _, _, rfl, _⟩ := h
  rfl
theorem len_H_state {Z : Cs} {vs : List V} {H : Hp} {Q : VK} {E : XK} (h : sp_H_state Z vs H Q E) : vs.length = 1 := by
  obtain ⟨_, _, _, rfl, _⟩ := h
  rfl
theorem len_M_twin {Z : Cs} {vs : List V} {H : Hp} {Q : VK} {E : XK} (h : sp_M_twin Z vs H Q E) : vs.length = 1 := by
  obtain ⟨_, _, rfl, _⟩ := h
  rfl
theorem len_M_state {Z : Cs} {vs : List V} {H : Hp} {Q : VK} {E : XK} (h : sp_M_state Z vs H Q E) : vs.length = 1 := by
  obtain ⟨_, _, rfl, _⟩ := h
  rfl
theorem len_stale {Z : Cs} {vs : List V} {H : Hp} {Q : VK} {E : XK} (h : sp_stale Z vs H Q E) : vs.length = 3 := by
  obtain ⟨_, _, _, _, _, _, rfl, _⟩ := h
  rfl
theorem len_L_dice {Z : Cs} {vs : List V} {H : Hp} {Q : VK} {E : XK} (h : sp_L_dice Z vs H Q E) : vs.length = 1 := by
  obtain ⟨_, _, rfl, _⟩ := h
  rfl
theorem len_L_next {Z : Cs} {vs : List V} {H : Hp} {Q : VK} {E : XK} (h : sp_L_next Z vs H Q E) : vs.length = 2 := by
  obtain ⟨_, _, rfl, _⟩ := h
  rfl
theorem len_L_values {Z : Cs} {vs : List V} {H : Hp} {Q : VK} {E : XK} (h : sp_L_values Z vs H Q E) : vs.length = 2 := by
  obtain ⟨_, _, rfl, _⟩ := h
  rfl
theorem len_L_deed {Z : Cs} {vs : List V} {H : Hp} {Q : VK} {E : XK} (h : sp_L_deed Z vs H Q E) : vs.length = 1 := by
  obtain ⟨_, rfl, _⟩ := h
  rfl
theorem len_L_programs {Z : Cs} {vs : List V} {H : Hp} {Q : VK} {E : XK} (h : sp_L_programs Z vs H Q E) : vs.length = 3 := by
  obtain ⟨_, _, _, rfl, _⟩ := h
  rfl
theorem len_L_rule {Z : Cs} {vs : List V} {H : Hp} {Q : VK} {E : XK} (h : sp_L_rule Z vs H Q E) : vs.length = 2 := by
  obtain ⟨_, _, rfl, _⟩ := h
  rfl
theorem len_L_weaving {Z : Cs} {vs : List V} {H : Hp} {Q : VK} {E : XK} (h : sp_L_weaving Z vs H Q E) : vs.length = 3 := by
  obtain ⟨_, _, _, rfl, _⟩ := h
  rfl
theorem len_L_case {Z : Cs} {vs : List V} {H : Hp} {Q : VK} {E : XK} (h : sp_L_case Z vs H Q E) : vs.length = 1 := by
  obtain ⟨_, rfl, _⟩ := h
  rfl
theorem len_L_stand {Z : Cs} {vs : List V} {H : Hp} {Q : VK} {E : XK} (h : sp_L_stand Z vs H Q E) : vs.length = 2 := by
  obtain ⟨_, _, _, rfl, _⟩ := h
  rfl
theorem len_L_few {Z : Cs} {vs : List V} {H : Hp} {Q : VK} {E : XK} (h : sp_L_few Z vs H Q E) : vs.length = 1 := by
  obtain ⟨_, rfl, _⟩ := h
  rfl
theorem len_L_small_case {Z : Cs} {vs : List V} {H : Hp} {Q : VK} {E : XK} (h : sp_L_small_case Z vs H Q E) : vs.length = 1 := by
  obtain ⟨_, rfl, _⟩ := h
  rfl
theorem len_law {Z : Cs} {vs : List V} {H : Hp} {Q : VK} {E : XK} (h : sp_law Z vs H Q E) : vs.length = 1 := by
  obtain ⟨_, _, rfl, _⟩ := h
  rfl

end SS
set_option Elab.async false
set_option linter.all false
set_option maxRecDepth 100000
set_option maxHeartbeats 0
namespace SR
open PySem PySem.Spec PyProof.Rows L2 SS
def top (i : Nat) : Stmt := PySem.Challenge.pw_stalestack_k38_whole_shorter_programs.main.body.getD i (.Pass ⟨0, 0, 0, 0⟩)
abbrev s_L_dice : Stmt := top 26
def d_L_dice : He.DefD := ⟨("_law_dice", none), "_law_dice", "_law_dice", defArgs s_L_dice, defBody s_L_dice, defScope s_L_dice, [], []⟩
abbrev s_L_next : Stmt := top 27
def d_L_next : He.DefD := ⟨("_law_next", none), "_law_next", "_law_next", defArgs s_L_next, defBody s_L_next, defScope s_L_next, [], []⟩
abbrev s_L_values : Stmt := top 28
def d_L_values : He.DefD := ⟨("_law_values", none), "_law_values", "_law_values", defArgs s_L_values, defBody s_L_values, defScope s_L_values, [], []⟩
abbrev s_L_deed : Stmt := top 29
def d_L_deed : He.DefD := ⟨("_law_deed", none), "_law_deed", "_law_deed", defArgs s_L_deed, defBody s_L_deed, defScope s_L_deed, [], []⟩
abbrev s_L_few : Stmt := top 32
def d_L_few : He.DefD := ⟨("_law_few", none), "_law_few", "_law_few", defArgs s_L_few, defBody s_L_few, defScope s_L_few, [], []⟩
abbrev s_L_rule : Stmt := top 30
def d_L_rule : He.DefD := ⟨("_law_rule", none), "_law_rule", "_law_rule", defArgs s_L_rule, defBody s_L_rule, defScope s_L_rule, [], []⟩
abbrev s_L_small_case : Stmt := top 33
def d_L_small_case : He.DefD := ⟨("_law_small_case", none), "_law_small_case", "_law_small_case", defArgs s_L_small_case, defBody s_L_small_case, defScope s_L_small_case, [], []⟩
abbrev s_need_values : Stmt := top 13
def d_need_values : He.DefD := ⟨("need_values", none), "need_values", "need_values", defArgs s_need_values, defBody s_need_values, defScope s_need_values, [], []⟩
abbrev s_is_deed : Stmt := top 14
def d_is_deed : He.DefD := ⟨("is_deed", none), "is_deed", "is_deed", defArgs s_is_deed, defBody s_is_deed, defScope s_is_deed, [], []⟩
abbrev s_need_deeds : Stmt := top 15
def d_need_deeds : He.DefD := ⟨("need_deeds", none), "need_deeds", "need_deeds", defArgs s_need_deeds, defBody s_need_deeds, defScope s_need_deeds, [], []⟩
abbrev s_need_programs : Stmt := top 16
def d_need_programs : He.DefD := ⟨("need_programs", none), "need_programs", "need_programs", defArgs s_need_programs, defBody s_need_programs, defScope s_need_programs, [], []⟩
abbrev s_need_rule : Stmt := top 17
def d_need_rule : He.DefD := ⟨("need_rule", none), "need_rule", "need_rule", defArgs s_need_rule, defBody s_need_rule, defScope s_need_rule, [], []⟩
abbrev s_H_init : Stmt := inClass (top 19) 0
def d_H_init : He.DefD := ⟨("Hand", some "__init__"), "__init__", "Hand.__init__", defArgs s_H_init, defBody s_H_init, defScope s_H_init, [], []⟩
abbrev s_M_init : Stmt := inClass (top 20) 0
def d_M_init : He.DefD := ⟨("Machine", some "__init__"), "__init__", "Machine.__init__", defArgs s_M_init, defBody s_M_init, defScope s_M_init, [], []⟩
abbrev s_H_state : Stmt := inClass (top 19) 2
def d_H_state : He.DefD := ⟨("Hand", some "state"), "state", "Hand.state", defArgs s_H_state, defBody s_H_state, defScope s_H_state, [], []⟩
abbrev s_M_state : Stmt := inClass (top 20) 2
def d_M_state : He.DefD := ⟨("Machine", some "state"), "state", "Machine.state", defArgs s_M_state, defBody s_M_state, defScope s_M_state, [], []⟩
abbrev s_M_rests : Stmt := inClass (top 20) 4
def d_M_rests : He.DefD := ⟨("Machine", some "rests"), "rests", "Machine.rests", defArgs s_M_rests, defBody s_M_rests, defScope s_M_rests, [], []⟩
abbrev s_H_twin : Stmt := inClass (top 19) 1
def d_H_twin : He.DefD := ⟨("Hand", some "twin"), "twin", "Hand.twin", defArgs s_H_twin, defBody s_H_twin, defScope s_H_twin, [], []⟩
abbrev s_M_twin : Stmt := inClass (top 20) 1
def d_M_twin : He.DefD := ⟨("Machine", some "twin"), "twin", "Machine.twin", defArgs s_M_twin, defBody s_M_twin, defScope s_M_twin, [], []⟩
abbrev s_M_need_hand : Stmt := inClass (top 20) 3
def d_M_need_hand : He.DefD := ⟨("Machine", some "need_hand"), "need_hand", "Machine.need_hand", defArgs s_M_need_hand, defBody s_M_need_hand, defScope s_M_need_hand, [], []⟩
abbrev s_M_marks : Stmt := inClass (top 20) 15
def d_M_marks : He.DefD := ⟨("Machine", some "marks"), "marks", "Machine.marks", defArgs s_M_marks, defBody s_M_marks, defScope s_M_marks, [], []⟩
abbrev s_M_taken : Stmt := inClass (top 20) 16
def d_M_taken : He.DefD := ⟨("Machine", some "taken"), "taken", "Machine.taken", defArgs s_M_taken, defBody s_M_taken, defScope s_M_taken, [], []⟩
abbrev s_M_forget : Stmt := inClass (top 20) 20
def d_M_forget : He.DefD := ⟨("Machine", some "forget"), "forget", "Machine.forget", defArgs s_M_forget, defBody s_M_forget, defScope s_M_forget, [], []⟩
abbrev s_M_ended : Stmt := inClass (top 20) 19
def d_M_ended : He.DefD := ⟨("Machine", some "ended"), "ended", "Machine.ended", defArgs s_M_ended, defBody s_M_ended, defScope s_M_ended, [], []⟩
abbrev s_M_read : Stmt := inClass (top 20) 18
def d_M_read : He.DefD := ⟨("Machine", some "read"), "read", "Machine.read", defArgs s_M_read, defBody s_M_read, defScope s_M_read, [], []⟩
abbrev s_M_exchange : Stmt := inClass (top 20) 21
def d_M_exchange : He.DefD := ⟨("Machine", some "exchange"), "exchange", "Machine.exchange", defArgs s_M_exchange, defBody s_M_exchange, defScope s_M_exchange, [], []⟩
abbrev s_M_push : Stmt := inClass (top 20) 22
def d_M_push : He.DefD := ⟨("Machine", some "push"), "push", "Machine.push", defArgs s_M_push, defBody s_M_push, defScope s_M_push, [], []⟩
abbrev s_M_guard : Stmt := inClass (top 20) 24
def d_M_guard : He.DefD := ⟨("Machine", some "guard"), "guard", "Machine.guard", defArgs s_M_guard, defBody s_M_guard, defScope s_M_guard, [], []⟩
abbrev s_M_pop : Stmt := inClass (top 20) 23
def d_M_pop : He.DefD := ⟨("Machine", some "pop"), "pop", "Machine.pop", defArgs s_M_pop, defBody s_M_pop, defScope s_M_pop, [], []⟩
abbrev s_M_turn : Stmt := inClass (top 20) 17
def d_M_turn : He.DefD := ⟨("Machine", some "turn"), "turn", "Machine.turn", defArgs s_M_turn, defBody s_M_turn, defScope s_M_turn, [], []⟩
abbrev s_M_is_stale : Stmt := inClass (top 20) 6
def d_M_is_stale : He.DefD := ⟨("Machine", some "is_stale"), "is_stale", "Machine.is_stale", defArgs s_M_is_stale, defBody s_M_is_stale, defScope s_M_is_stale, [], []⟩
abbrev s_stale : Stmt := top 22
def d_stale : He.DefD := ⟨("stale", none), "stale", "stale", defArgs s_stale, defBody s_stale, defScope s_stale, [], []⟩
abbrev s_played : Stmt := top 24
def d_played : He.DefD := ⟨("played", none), "played", "played", defArgs s_played, defBody s_played, defScope s_played, [], []⟩
abbrev s_L_weaving : Stmt := top 31
def d_L_weaving : He.DefD := ⟨("_law_weaving", none), "_law_weaving", "_law_weaving", defArgs s_L_weaving, defBody s_L_weaving, defScope s_L_weaving, [], []⟩
abbrev s_law : Stmt := top 34
def d_law : He.DefD := ⟨("law", none), "law", "law", defArgs s_law, defBody s_law, defScope s_law, [], []⟩
def fn : List He.DefD := [d_L_dice, d_L_next, d_L_values, d_L_deed, d_L_few, d_L_rule, d_L_small_case, d_need_values, d_is_deed, d_need_deeds, d_need_programs, d_need_rule, d_H_init, d_M_init, d_H_state, d_M_state, d_M_rests, d_H_twin, d_M_twin, d_M_need_hand, d_M_marks, d_M_taken, d_M_forget, d_M_ended, d_M_read, d_M_exchange, d_M_push, d_M_guard, d_M_pop, d_M_turn, d_M_is_stale, d_stale, d_played, d_L_weaving, d_law]
def fa : List He.Fa := [.cls "Machine", .cls "Hand", .mkr "Machine", .mkr "Hand", .noat "Machine" "rule", .noat "Machine" "worths", .noat "Machine" "links", .noat "Machine" "top", .noat "Machine" "count", .noat "Machine" "freed", .noat "Machine" "hands", .noat "Machine" "ends", .noat "Machine" "strayed", .noat "Hand" "program", .noat "Hand" "at", .noat "Hand" "cell", .noat "Hand" "seen", .noat "Hand" "follow", .noat "Hand" "mark", .noat "Hand" "looked", .noat "Hand" "said", .glo "Machine", .glo "Hand", .glo "_law_dice", .free "len", .free "int", .glo "_law_next", .glo "_law_values", .free "range", .glo "_law_deed", .glo "_law_few", .glo "_law_rule", .free "tuple", .glo "_law_small_case", .glo "need_values", .int "MOST_VALUES" 6, .int "MOST_VALUE" 99, .glo "is_deed", .glo "need_deeds", .glo "need_programs", .int "MOST_HANDS" 3, .int "MOST_DEEDS" 4, .glo "need_rule", .int "MOST_COUNTS" 15, .free "list", .meth "Hand" "state", .meth "Machine" "state", .meth "Machine" "rests", .meth "Hand" "twin", .meth "Machine" "twin", .meth "Machine" "need_hand", .meth "Machine" "marks", .meth "Machine" "taken", .meth "Machine" "forget", .meth "Machine" "ended", .meth "Machine" "read", .meth "Machine" "exchange", .meth "Machine" "push", .meth "Machine" "guard", .meth "Machine" "pop", .meth "Machine" "turn", .meth "Machine" "is_stale", .glo "stale", .glo "played", .glo "_law_weaving", .glo "law", .free "max"]
theorem sc_L_dice : FnScope ["_law_script", "_law_mixed", "_law_cell"] ["_law_script"] (defScope s_L_dice) := ⟨rfl, rfl, rfl, by decide +kernel, rfl, by decide +kernel, by decide +kernel⟩
theorem sc_L_next : FnScope ["_law_dice_here", "_law_many", "_law_found", "_law_cell"] ["_law_dice_here", "_law_many"] (defScope s_L_next) := ⟨rfl, rfl, rfl, by decide +kernel, rfl, by decide +kernel, by decide +kernel⟩
theorem sc_L_values : FnScope ["_law_d", "_law_most", "_law_k"] ["_law_d", "_law_most"] (defScope s_L_values) := ⟨rfl, rfl, rfl, by decide +kernel, rfl, by decide +kernel, by decide +kernel⟩
theorem sc_L_deed : FnScope ["_law_d"] ["_law_d"] (defScope s_L_deed) := ⟨rfl, rfl, rfl, by decide +kernel, rfl, by decide +kernel, by decide +kernel⟩
theorem sc_L_few : FnScope ["_law_d", "_law_one", "_law_other"] ["_law_d"] (defScope s_L_few) := ⟨rfl, rfl, rfl, by decide +kernel, rfl, by decide +kernel, by decide +kernel⟩
theorem sc_L_rule : FnScope ["_law_d", "_law_many", "_law_kind", "_law_hand"] ["_law_d", "_law_many"] (defScope s_L_rule) := ⟨rfl, rfl, rfl, by decide +kernel, rfl, by decide +kernel, by decide +kernel⟩
theorem sc_L_small_case : FnScope ["_law_d", "_law_values_here", "_law_programs", "_law_rule_here"] ["_law_d"] (defScope s_L_small_case) := ⟨rfl, rfl, rfl, by decide +kernel, rfl, by decide +kernel, by decide +kernel⟩
theorem sc_need_values : FnScope ["values", "at"] ["values"] (defScope s_need_values) := ⟨rfl, rfl, rfl, by decide +kernel, rfl, by decide +kernel, by decide +kernel⟩
theorem sc_is_deed : FnScope ["deed"] ["deed"] (defScope s_is_deed) := ⟨rfl, rfl, rfl, by decide +kernel, rfl, by decide +kernel, by decide +kernel⟩
theorem sc_need_deeds : FnScope ["deeds", "hand", "number"] ["deeds", "hand"] (defScope s_need_deeds) := ⟨rfl, rfl, rfl, by decide +kernel, rfl, by decide +kernel, by decide +kernel⟩
theorem sc_need_programs : FnScope ["programs", "hand"] ["programs"] (defScope s_need_programs) := ⟨rfl, rfl, rfl, by decide +kernel, rfl, by decide +kernel, by decide +kernel⟩
theorem sc_need_rule : FnScope ["rule", "many", "at"] ["rule", "many"] (defScope s_need_rule) := ⟨rfl, rfl, rfl, by decide +kernel, rfl, by decide +kernel, by decide +kernel⟩
theorem sc_H_init : FnScope ["self", "program"] ["self", "program"] (defScope s_H_init) := ⟨rfl, rfl, rfl, by decide +kernel, rfl, by decide +kernel, by decide +kernel⟩
theorem sc_M_init : FnScope ["self", "values", "programs", "rule", "program"] ["self", "values", "programs", "rule"] (defScope s_M_init) := ⟨rfl, rfl, rfl, by decide +kernel, rfl, by decide +kernel, by decide +kernel⟩
theorem sc_H_state : FnScope ["self"] ["self"] (defScope s_H_state) := ⟨rfl, rfl, rfl, by decide +kernel, rfl, by decide +kernel, by decide +kernel⟩
theorem sc_M_state : FnScope ["self", "hands", "hand"] ["self"] (defScope s_M_state) := ⟨rfl, rfl, rfl, by decide +kernel, rfl, by decide +kernel, by decide +kernel⟩
theorem sc_M_rests : FnScope ["self", "hand"] ["self", "hand"] (defScope s_M_rests) := ⟨rfl, rfl, rfl, by decide +kernel, rfl, by decide +kernel, by decide +kernel⟩
theorem sc_H_twin : FnScope ["self", "found"] ["self"] (defScope s_H_twin) := ⟨rfl, rfl, rfl, by decide +kernel, rfl, by decide +kernel, by decide +kernel⟩
theorem sc_M_twin : FnScope ["self", "found", "hand"] ["self"] (defScope s_M_twin) := ⟨rfl, rfl, rfl, by decide +kernel, rfl, by decide +kernel, by decide +kernel⟩
theorem sc_M_need_hand : FnScope ["self", "hand"] ["self", "hand"] (defScope s_M_need_hand) := ⟨rfl, rfl, rfl, by decide +kernel, rfl, by decide +kernel, by decide +kernel⟩
theorem sc_M_marks : FnScope ["self", "hand"] ["self"] (defScope s_M_marks) := ⟨rfl, rfl, rfl, by decide +kernel, rfl, by decide +kernel, by decide +kernel⟩
theorem sc_M_taken : FnScope ["self", "value", "cell"] ["self", "value"] (defScope s_M_taken) := ⟨rfl, rfl, rfl, by decide +kernel, rfl, by decide +kernel, by decide +kernel⟩
theorem sc_M_forget : FnScope ["self", "hand", "one"] ["self", "hand"] (defScope s_M_forget) := ⟨rfl, rfl, rfl, by decide +kernel, rfl, by decide +kernel, by decide +kernel⟩
theorem sc_M_ended : FnScope ["self", "hand", "answer", "one"] ["self", "hand", "answer"] (defScope s_M_ended) := ⟨rfl, rfl, rfl, by decide +kernel, rfl, by decide +kernel, by decide +kernel⟩
theorem sc_M_read : FnScope ["self", "hand", "one"] ["self", "hand"] (defScope s_M_read) := ⟨rfl, rfl, rfl, by decide +kernel, rfl, by decide +kernel, by decide +kernel⟩
theorem sc_M_exchange : FnScope ["self", "hand", "cell"] ["self", "hand", "cell"] (defScope s_M_exchange) := ⟨rfl, rfl, rfl, by decide +kernel, rfl, by decide +kernel, by decide +kernel⟩
theorem sc_M_push : FnScope ["self", "hand", "one"] ["self", "hand"] (defScope s_M_push) := ⟨rfl, rfl, rfl, by decide +kernel, rfl, by decide +kernel, by decide +kernel⟩
theorem sc_M_guard : FnScope ["self", "hand", "cell", "one"] ["self", "hand", "cell"] (defScope s_M_guard) := ⟨rfl, rfl, rfl, by decide +kernel, rfl, by decide +kernel, by decide +kernel⟩
theorem sc_M_pop : FnScope ["self", "hand", "one", "cell", "follow"] ["self", "hand"] (defScope s_M_pop) := ⟨rfl, rfl, rfl, by decide +kernel, rfl, by decide +kernel, by decide +kernel⟩
theorem sc_M_turn : FnScope ["self", "hand", "one", "deed"] ["self", "hand"] (defScope s_M_turn) := ⟨rfl, rfl, rfl, by decide +kernel, rfl, by decide +kernel, by decide +kernel⟩
theorem sc_M_is_stale : FnScope ["self"] ["self"] (defScope s_M_is_stale) := ⟨rfl, rfl, rfl, by decide +kernel, rfl, by decide +kernel, by decide +kernel⟩
theorem sc_stale : FnScope ["values", "programs", "rule", "first", "met", "level", "behind", "weaving", "machine", "hand", "other"] ["values", "programs", "rule"] (defScope s_stale) := ⟨rfl, rfl, rfl, by decide +kernel, rfl, by decide +kernel, by decide +kernel⟩
theorem sc_played : FnScope ["values", "programs", "rule", "weaving", "machine", "hand"] ["values", "programs", "rule", "weaving"] (defScope s_played) := ⟨rfl, rfl, rfl, by decide +kernel, rfl, by decide +kernel, by decide +kernel⟩
theorem sc_L_weaving : FnScope ["_law_d", "_law_many", "_law_most", "_law_weaving_here", "_law_k"] ["_law_d", "_law_many", "_law_most"] (defScope s_L_weaving) := ⟨rfl, rfl, rfl, by decide +kernel, rfl, by decide +kernel, by decide +kernel⟩
theorem sc_law : FnScope ["_law_script", "_law_d", "_law_values_here", "_law_programs", "_law_rule_here", "_law_fewer", "_law_row", "_law_one", "_law_two", "_law_weaving_here", "_law_short", "_law_long", "_law_k", "_law_alone"] ["_law_script"] (defScope s_law) := ⟨rfl, rfl, rfl, by decide +kernel, rfl, by decide +kernel, by decide +kernel⟩
abbrev ZZ (K : PySem.W.Frag) : Cs := ⟨K, He.ga K "Hand", He.ga K "Machine"⟩
def OkF (P : Program) (w : World) (K : PySem.W.Frag) (mg : Str → Option Value) (d : He.DefD) (k : Nat) (ps : List Str) (sp : Sp) : Prop := ∃ fd, (∀ base, FnOk P w K mg base CX0 k (He.fAd K d.at_) fd ps sp) ∧ Binds K fd ps [] ∧ PySem.W.keepIn K (.ref (He.fAd K d.at_)) = true ∧ FunD K d.name d.qual d.params d.body d.scope (d.dvs K) (d.kws K) (He.fAd K d.at_) fd
section
variable {P : Program} {w : World} {K : PySem.W.Frag} {mg : Str → Option Value} {h : Heap}
theorem zok (c : He.SaysD fa fn K) : ZOk (ZZ K) := ⟨He.cls_ok (c.fact 0 (f := .cls "Machine") rfl), He.cls_ok (c.fact 1 (f := .cls "Hand") rfl), He.noat_ok (c.fact 4 (f := .noat "Machine" "rule") rfl), He.noat_ok (c.fact 5 (f := .noat "Machine" "worths") rfl), He.noat_ok (c.fact 6 (f := .noat "Machine" "links") rfl), He.noat_ok (c.fact 7 (f := .noat "Machine" "top") rfl), He.noat_ok (c.fact 8 (f := .noat "Machine" "count") rfl), He.noat_ok (c.fact 9 (f := .noat "Machine" "freed") rfl), He.noat_ok (c.fact 10 (f := .noat "Machine" "hands") rfl), He.noat_ok (c.fact 11 (f := .noat "Machine" "ends") rfl), He.noat_ok (c.fact 12 (f := .noat "Machine" "strayed") rfl), He.noat_ok (c.fact 13 (f := .noat "Hand" "program") rfl), He.noat_ok (c.fact 14 (f := .noat "Hand" "at") rfl), He.noat_ok (c.fact 15 (f := .noat "Hand" "cell") rfl), He.noat_ok (c.fact 16 (f := .noat "Hand" "seen") rfl), He.noat_ok (c.fact 17 (f := .noat "Hand" "follow") rfl), He.noat_ok (c.fact 18 (f := .noat "Hand" "mark") rfl), He.noat_ok (c.fact 19 (f := .noat "Hand" "looked") rfl), He.noat_ok (c.fact 20 (f := .noat "Hand" "said") rfl)⟩
theorem ok_L_dice (X : K.In h) (G : h.Ns mainGlobals mg) (c : He.SaysD fa fn K) : OkF P w K mg d_L_dice 1 ["_law_script"] (sp_L_dice (ZZ K)) := by
  obtain ⟨fd, F0⟩ := c.def_ 0 (d := d_L_dice) rfl
  have F : FunD K "_law_dice" "_law_dice" (defArgs s_L_dice) (defBody s_L_dice) (defScope s_L_dice) [] [] (He.fAd K ("_law_dice", none)) fd := F0
  have f_len : mg "len" = none := He.free_ok X G (c.fact 24 (f := .free "len") rfl)
  have f_int : mg "int" = none := He.free_ok X G (c.fact 25 (f := .free "int") rfl)
  refine ⟨fd, fun base => ?_, F.bindsN (fun _ _ _ _ _ _ us hl => match us, hl with | [_], _ => rfl), F0.kp, F0⟩
  refine F.ok sc_L_dice (fun vs H Q E h => len_L_dice h) (fun cdv A outer s H vs Q E hr h => ⟨t_L_dice (ZZ K), PSs.nox ?_, pure_L_dice vs H Q E h⟩)
  exact pss_cons (ps_set (i := 1) sc_L_dice.nd rfl (Or.inl rfl) pe_int)
      (pss_cons (ps_for PassesOwn.never rfl (pi_list (pv 0)) (pg_name (i := 2) sc_L_dice.nd rfl (Or.inl rfl)) (pss_one (ps_set (i := 1) sc_L_dice.nd rfl (Or.inl rfl) (pe_op op_mod (pe_op op_add (pe_op op_add (pe_op op_mul (pv 1) pe_int) (pe_op op_mul (pe_op op_mod (pv 2) pe_int) pe_int)) pe_int) pe_int))))
      (pss_one (ps_ret (pe_lst (pa_cons (pv 0) (pa_cons pe_int (pa_cons (pe_op op_mul (pv 1) (pe_callTy call_int1 rfl f_int (by decide +kernel) (pa_cons (pe_cmpR op_gt (pe_callB call_len_seq rfl f_len PySem.boot_len (pa_cons (pv 0) pa_nil)) pe_int (nomark _)) pa_nil))) (pa_cons pe_int pa_nil))))))))
theorem ok_L_next (X : K.In h) (G : h.Ns mainGlobals mg) (c : He.SaysD fa fn K) : OkF P w K mg d_L_next 1 ["_law_dice_here", "_law_many"] (sp_L_next (ZZ K)) := by
  obtain ⟨fd, F0⟩ := c.def_ 1 (d := d_L_next) rfl
  have F : FunD K "_law_next" "_law_next" (defArgs s_L_next) (defBody s_L_next) (defScope s_L_next) [] [] (He.fAd K ("_law_next", none)) fd := F0
  have f_len : mg "len" = none := He.free_ok X G (c.fact 24 (f := .free "len") rfl)
  refine ⟨fd, fun base => ?_, F.bindsN (fun _ _ _ _ _ _ us hl => match us, hl with | [_, _], _ => rfl), F0.kp, F0⟩
  refine F.ok sc_L_next (fun vs H Q E h => len_L_next h) (fun cdv A outer s H vs Q E hr h => ⟨t_L_next (ZZ K), PSs.nox ?_, pure_L_next vs H Q E h⟩)
  exact pss_cons (ps_if (pt_cmpR op_gt (pe_ix ix_list (pv 0) pe_int (fun _ _ => rfl)) pe_int (nomark _)) (pss_cons (ps_set (i := 2) sc_L_next.nd rfl (Or.inl rfl) (pe_op op_mod (pe_ix ix_list (pv 0) pe_int (fun _ _ => rfl)) (pv 1)))
      (pss_cons (ps_asg (pe_op op_fdiv (pe_ix ix_list (pv 0) pe_int (fun _ _ => rfl)) (pv 1)) (pg_sub (pv 0) pe_int set_list))
      (pss_one (ps_ret (pv 2))))) (pss_nil))
      (pss_cons (ps_asg (pe_op op_add (pe_ix ix_list (pv 0) pe_int (fun _ _ => rfl)) pe_int) (pg_sub (pv 0) pe_int set_list))
      (pss_cons (ps_if (pt_cmpR op_le (pe_ix ix_list (pv 0) pe_int (fun _ _ => rfl)) (pe_callB call_len_seq rfl f_len PySem.boot_len (pa_cons (pe_ix ix_list (pv 0) pe_int (fun _ _ => rfl)) pa_nil)) (nomark _)) (pss_cons (ps_set (i := 3) sc_L_next.nd rfl (Or.inl rfl) (pe_ix ix_list (pe_ix ix_list (pv 0) pe_int (fun _ _ => rfl)) (pe_op op_sub (pe_ix ix_list (pv 0) pe_int (fun _ _ => rfl)) pe_int) (fun _ _ => rfl)))
      (pss_cons (ps_asg (pe_ifExp (pt_cmpR op_ge (pv 3) (pe_op op_pow pe_int pe_int) (nomark _)) (pe_op op_fdiv (pv 3) (pv 1)) pe_int) (pg_sub (pv 0) pe_int set_list))
      (pss_one (ps_ret (pe_op op_mod (pv 3) (pv 1)))))) (pss_nil))
      (pss_cons (ps_asg (pe_op op_mod (pe_op op_mul (pe_ix ix_list (pv 0) pe_int (fun _ _ => rfl)) pe_int) pe_int) (pg_sub (pv 0) pe_int set_list))
      (pss_one (ps_ret (pe_op op_mod (pe_op op_fdiv (pe_ix ix_list (pv 0) pe_int (fun _ _ => rfl)) pe_int) (pv 1)))))))
theorem ok_L_values (X : K.In h) (G : h.Ns mainGlobals mg) (c : He.SaysD fa fn K) : OkF P w K mg d_L_values 2 ["_law_d", "_law_most"] (sp_L_values (ZZ K)) := by
  obtain ⟨fd, F0⟩ := c.def_ 2 (d := d_L_values) rfl
  have F : FunD K "_law_values" "_law_values" (defArgs s_L_values) (defBody s_L_values) (defScope s_L_values) [] [] (He.fAd K ("_law_values", none)) fd := F0
  obtain ⟨fd_L_next, GA_L_next, b_L_next, k_L_next, _⟩ := ok_L_next (P := P) (w := w) X G c
  have g_L_next : mg "_law_next" = some (.ref (He.ga K "_law_next")) := He.glo_ok X G (c.fact 26 (f := .glo "_law_next") rfl)
  have f_range : mg "range" = none := He.free_ok X G (c.fact 28 (f := .free "range") rfl)
  refine ⟨fd, fun base => ?_, F.bindsN (fun _ _ _ _ _ _ us hl => match us, hl with | [_, _], _ => rfl), F0.kp, F0⟩
  have G_L_next := GA_L_next base
  refine F.ok sc_L_values (fun vs H Q E h => len_L_values h) (fun cdv A outer s H vs Q E hr h => ⟨t_L_values (ZZ K), PSs.nox ?_, pure_L_values vs H Q E h⟩)
  exact pss_one (ps_ret (pe_lc (own := [("_law_k", 2)]) rfl sc_L_values.nd (pi_range1 rfl f_range (pa_cons (pe_call G_L_next (hr.mono (by decide)) rfl g_L_next k_L_next b_L_next .nil pass0 (pa_cons (pv 0) (pa_cons (pe_op op_add (pv 1) pe_int) pa_nil))) pa_nil)) (blkOk_by (own := [("_law_k", 2)]) (N := ["_law_d", "_law_most", "_law_k"]) (sc := defScope s_L_values) (by decide +kernel)) (fun _ _ _ _ _ => (pg_name (i := 2) sc_L_values.nd rfl (Or.inl rfl))) (fun _ _ _ _ _ => pts_nil) (fun _ _ _ _ _ => (pe_call G_L_next (hr.mono (by decide)) rfl g_L_next k_L_next b_L_next .nil pass0 (pa_cons (pv 0) (pa_cons pe_int pa_nil))))))
theorem ok_L_deed (X : K.In h) (G : h.Ns mainGlobals mg) (c : He.SaysD fa fn K) : OkF P w K mg d_L_deed 2 ["_law_d"] (sp_L_deed (ZZ K)) := by
  obtain ⟨fd, F0⟩ := c.def_ 3 (d := d_L_deed) rfl
  have F : FunD K "_law_deed" "_law_deed" (defArgs s_L_deed) (defBody s_L_deed) (defScope s_L_deed) [] [] (He.fAd K ("_law_deed", none)) fd := F0
  obtain ⟨fd_L_next, GA_L_next, b_L_next, k_L_next, _⟩ := ok_L_next (P := P) (w := w) X G c
  have g_L_next : mg "_law_next" = some (.ref (He.ga K "_law_next")) := He.glo_ok X G (c.fact 26 (f := .glo "_law_next") rfl)
  refine ⟨fd, fun base => ?_, F.bindsN (fun _ _ _ _ _ _ us hl => match us, hl with | [_], _ => rfl), F0.kp, F0⟩
  have G_L_next := GA_L_next base
  refine F.ok sc_L_deed (fun vs H Q E h => len_L_deed h) (fun cdv A outer s H vs Q E hr h => ⟨t_L_deed (ZZ K), PSs.nox ?_, pure_L_deed vs H Q E h⟩)
  exact pss_cons (ps_if (pt_cmpR op_eq (pe_call G_L_next (hr.mono (by decide)) rfl g_L_next k_L_next b_L_next .nil pass0 (pa_cons (pv 0) (pa_cons pe_int pa_nil))) pe_int (nomark _)) (pss_one (ps_ret (pe_tup (pa_cons pe_str (pa_cons (pe_call G_L_next (hr.mono (by decide)) rfl g_L_next k_L_next b_L_next .nil pass0 (pa_cons (pv 0) (pa_cons pe_int pa_nil))) pa_nil))))) (pss_nil))
      (pss_one (ps_ret (pe_tup (pa_cons pe_str pa_nil))))
theorem ok_L_few (X : K.In h) (G : h.Ns mainGlobals mg) (c : He.SaysD fa fn K) : OkF P w K mg d_L_few 3 ["_law_d"] (sp_L_few (ZZ K)) := by
  obtain ⟨fd, F0⟩ := c.def_ 4 (d := d_L_few) rfl
  have F : FunD K "_law_few" "_law_few" (defArgs s_L_few) (defBody s_L_few) (defScope s_L_few) [] [] (He.fAd K ("_law_few", none)) fd := F0
  obtain ⟨fd_L_deed, GA_L_deed, b_L_deed, k_L_deed, _⟩ := ok_L_deed (P := P) (w := w) X G c
  have g_L_deed : mg "_law_deed" = some (.ref (He.ga K "_law_deed")) := He.glo_ok X G (c.fact 29 (f := .glo "_law_deed") rfl)
  obtain ⟨fd_L_next, GA_L_next, b_L_next, k_L_next, _⟩ := ok_L_next (P := P) (w := w) X G c
  have g_L_next : mg "_law_next" = some (.ref (He.ga K "_law_next")) := He.glo_ok X G (c.fact 26 (f := .glo "_law_next") rfl)
  have f_int : mg "int" = none := He.free_ok X G (c.fact 25 (f := .free "int") rfl)
  have f_len : mg "len" = none := He.free_ok X G (c.fact 24 (f := .free "len") rfl)
  refine ⟨fd, fun base => ?_, F.bindsN (fun _ _ _ _ _ _ us hl => match us, hl with | [_], _ => rfl), F0.kp, F0⟩
  have G_L_deed := GA_L_deed base
  have G_L_next := GA_L_next base
  refine F.ok sc_L_few (fun vs H Q E h => len_L_few h) (fun cdv A outer s H vs Q E hr h => ⟨t_L_few (ZZ K), PSs.nox ?_, pure_L_few vs H Q E h⟩)
  exact pss_cons (ps_set (i := 1) sc_L_few.nd rfl (Or.inl rfl) (pe_ix ix_list (pe_lst (pa_cons (pe_lst (pa_cons (pe_tup (pa_cons pe_str pa_nil)) pa_nil)) (pa_cons (pe_lst (pa_cons (pe_call G_L_deed (hr.mono (by decide)) rfl g_L_deed k_L_deed b_L_deed .nil pass0 (pa_cons (pv 0) pa_nil)) pa_nil)) pa_nil))) (pe_callTy call_int1 rfl f_int (by decide +kernel) (pa_cons (pe_cmpR op_eq (pe_call G_L_next (hr.mono (by decide)) rfl g_L_next k_L_next b_L_next .nil pass0 (pa_cons (pv 0) (pa_cons pe_int pa_nil))) pe_int (nomark _)) pa_nil)) (fun _ _ => rfl)))
      (pss_cons (ps_set (i := 2) sc_L_few.nd rfl (Or.inl rfl) (pe_slice sl_list (pe_lst (pa_cons (pe_tup (pa_cons pe_str pa_nil)) (pa_cons (pe_tup (pa_cons pe_str pa_nil)) (pa_cons (pe_tup (pa_cons pe_str (pa_cons (pe_call G_L_next (hr.mono (by decide)) rfl g_L_next k_L_next b_L_next .nil pass0 (pa_cons (pv 0) (pa_cons pe_int pa_nil))) pa_nil))) pa_nil)))) (po_some (pe_call G_L_next (hr.mono (by decide)) rfl g_L_next k_L_next b_L_next .nil pass0 (pa_cons (pv 0) (pa_cons pe_int pa_nil)))) po_none))
      (pss_cons (ps_expr (pe_bm PySem.F.plainAttrs_list PySem.F.slot_list_insert PySem.F.type_list_insert mt_insert (pv 2) (pa_cons (pe_call G_L_next (hr.mono (by decide)) rfl g_L_next k_L_next b_L_next .nil pass0 (pa_cons (pv 0) (pa_cons (pe_op op_add (pe_callB call_len_seq rfl f_len PySem.boot_len (pa_cons (pv 2) pa_nil)) pe_int) pa_nil))) (pa_cons (pe_call G_L_deed (hr.mono (by decide)) rfl g_L_deed k_L_deed b_L_deed .nil pass0 (pa_cons (pv 0) pa_nil)) pa_nil))))
      (pss_cons (ps_if (PW.pt (pw_and (pt_cmpR op_gt (pe_callB call_len_seq rfl f_len PySem.boot_len (pa_cons (pv 2) pa_nil)) pe_int (nomark _)) (pw_and1 (pt_cmpR op_gt (pe_call G_L_next (hr.mono (by decide)) rfl g_L_next k_L_next b_L_next .nil pass0 (pa_cons (pv 0) (pa_cons pe_int pa_nil))) pe_int (nomark _))))) (pss_one (ps_expr (pe_bm PySem.F.plainAttrs_list PySem.F.slot_list_pop PySem.F.type_list_pop mt_popAt (pv 2) (pa_cons (pe_call G_L_next (hr.mono (by decide)) rfl g_L_next k_L_next b_L_next .nil pass0 (pa_cons (pv 0) (pa_cons pe_int pa_nil))) pa_nil)))) (pss_nil))
      (pss_one (ps_ret (pe_stepL (pe_lst (pa_cons (pv 1) (pa_cons (pv 2) pa_nil))) (pe_ix ix_list (pe_lst (pa_cons pe_int (pa_cons (pe_un un_neg pe_int) pa_nil))) (pe_call G_L_next (hr.mono (by decide)) rfl g_L_next k_L_next b_L_next .nil pass0 (pa_cons (pv 0) (pa_cons pe_int pa_nil))) (fun _ _ => rfl))))))))
theorem ok_L_rule (X : K.In h) (G : h.Ns mainGlobals mg) (c : He.SaysD fa fn K) : OkF P w K mg d_L_rule 2 ["_law_d", "_law_many"] (sp_L_rule (ZZ K)) := by
  obtain ⟨fd, F0⟩ := c.def_ 5 (d := d_L_rule) rfl
  have F : FunD K "_law_rule" "_law_rule" (defArgs s_L_rule) (defBody s_L_rule) (defScope s_L_rule) [] [] (He.fAd K ("_law_rule", none)) fd := F0
  obtain ⟨fd_L_next, GA_L_next, b_L_next, k_L_next, _⟩ := ok_L_next (P := P) (w := w) X G c
  have g_L_next : mg "_law_next" = some (.ref (He.ga K "_law_next")) := He.glo_ok X G (c.fact 26 (f := .glo "_law_next") rfl)
  have f_range : mg "range" = none := He.free_ok X G (c.fact 28 (f := .free "range") rfl)
  have f_tuple : mg "tuple" = none := He.free_ok X G (c.fact 32 (f := .free "tuple") rfl)
  refine ⟨fd, fun base => ?_, F.bindsN (fun _ _ _ _ _ _ us hl => match us, hl with | [_, _], _ => rfl), F0.kp, F0⟩
  have G_L_next := GA_L_next base
  refine F.ok sc_L_rule (fun vs H Q E h => len_L_rule h) (fun cdv A outer s H vs Q E hr h => ⟨t_L_rule (ZZ K), PSs.nox ?_, pure_L_rule vs H Q E h⟩)
  exact pss_cons (ps_set (i := 2) sc_L_rule.nd rfl (Or.inl rfl) (pe_call G_L_next (hr.mono (by decide)) rfl g_L_next k_L_next b_L_next .nil pass0 (pa_cons (pv 0) (pa_cons pe_int pa_nil))))
      (pss_cons (ps_if (pt_cmpR op_lt (pv 2) pe_int (nomark _)) (pss_one (ps_ret (pe_tup (pa_cons pe_str (pa_cons (pe_op op_add pe_int (pe_call G_L_next (hr.mono (by decide)) rfl g_L_next k_L_next b_L_next .nil pass0 (pa_cons (pv 0) (pa_cons (pe_ix ix_list (pe_lst (pa_cons pe_int (pa_cons pe_int pa_nil))) (pe_call G_L_next (hr.mono (by decide)) rfl g_L_next k_L_next b_L_next .nil pass0 (pa_cons (pv 0) (pa_cons pe_int pa_nil))) (fun _ _ => rfl)) pa_nil)))) pa_nil))))) (pss_nil))
      (pss_cons (ps_if (pt_cmpR op_eq (pv 2) pe_int (nomark _)) (pss_one (ps_ret (pe_tup (pa_cons pe_str (pa_cons (pe_callTy call_tuple_of rfl f_tuple (by decide +kernel) (pa_cons (pe_lc (own := [("_law_hand", 3)]) rfl sc_L_rule.nd (pi_range1 rfl f_range (pa_cons (pv 1) pa_nil)) (blkOk_by (own := [("_law_hand", 3)]) (N := ["_law_d", "_law_many", "_law_kind", "_law_hand"]) (sc := defScope s_L_rule) (by decide +kernel)) (fun _ _ _ _ _ => (pg_name (i := 3) sc_L_rule.nd rfl (Or.inl rfl))) (fun _ _ _ _ _ => pts_one (pt_cmpR op_eq (pe_call G_L_next (hr.mono (by decide)) rfl g_L_next k_L_next b_L_next .nil pass0 (pa_cons (pv 0) (pa_cons pe_int pa_nil))) pe_int (nomark _))) (fun _ _ _ _ _ => (pv 3))) pa_nil)) pa_nil))))) (pss_nil))
      (pss_one (ps_ret (pe_tup (pa_cons pe_str pa_nil))))))
theorem ok_L_small_case (X : K.In h) (G : h.Ns mainGlobals mg) (c : He.SaysD fa fn K) : OkF P w K mg d_L_small_case 4 ["_law_d"] (sp_L_small_case (ZZ K)) := by
  obtain ⟨fd, F0⟩ := c.def_ 6 (d := d_L_small_case) rfl
  have F : FunD K "_law_small_case" "_law_small_case" (defArgs s_L_small_case) (defBody s_L_small_case) (defScope s_L_small_case) [] [] (He.fAd K ("_law_small_case", none)) fd := F0
  obtain ⟨fd_L_values, GA_L_values, b_L_values, k_L_values, _⟩ := ok_L_values (P := P) (w := w) X G c
  have g_L_values : mg "_law_values" = some (.ref (He.ga K "_law_values")) := He.glo_ok X G (c.fact 27 (f := .glo "_law_values") rfl)
  obtain ⟨fd_L_few, GA_L_few, b_L_few, k_L_few, _⟩ := ok_L_few (P := P) (w := w) X G c
  have g_L_few : mg "_law_few" = some (.ref (He.ga K "_law_few")) := He.glo_ok X G (c.fact 30 (f := .glo "_law_few") rfl)
  obtain ⟨fd_L_rule, GA_L_rule, b_L_rule, k_L_rule, _⟩ := ok_L_rule (P := P) (w := w) X G c
  have g_L_rule : mg "_law_rule" = some (.ref (He.ga K "_law_rule")) := He.glo_ok X G (c.fact 31 (f := .glo "_law_rule") rfl)
  obtain ⟨fd_L_next, GA_L_next, b_L_next, k_L_next, _⟩ := ok_L_next (P := P) (w := w) X G c
  have g_L_next : mg "_law_next" = some (.ref (He.ga K "_law_next")) := He.glo_ok X G (c.fact 26 (f := .glo "_law_next") rfl)
  have f_len : mg "len" = none := He.free_ok X G (c.fact 24 (f := .free "len") rfl)
  refine ⟨fd, fun base => ?_, F.bindsN (fun _ _ _ _ _ _ us hl => match us, hl with | [_], _ => rfl), F0.kp, F0⟩
  have G_L_values := GA_L_values base
  have G_L_few := GA_L_few base
  have G_L_rule := GA_L_rule base
  have G_L_next := GA_L_next base
  refine F.ok sc_L_small_case (fun vs H Q E h => len_L_small_case h) (fun cdv A outer s H vs Q E hr h => ⟨t_L_small_case (ZZ K), PSs.nox ?_, pure_L_small_case vs H Q E h⟩)
  exact pss_cons (ps_set (i := 1) sc_L_small_case.nd rfl (Or.inl rfl) (pe_call G_L_values (hr.mono (by decide)) rfl g_L_values k_L_values b_L_values .nil pass0 (pa_cons (pv 0) (pa_cons pe_int pa_nil))))
      (pss_cons (ps_set (i := 2) sc_L_small_case.nd rfl (Or.inl rfl) (pe_call G_L_few (hr.mono (by decide)) rfl g_L_few k_L_few b_L_few .nil pass0 (pa_cons (pv 0) pa_nil)))
      (pss_cons (ps_set (i := 3) sc_L_small_case.nd rfl (Or.inl rfl) (pe_call G_L_rule (hr.mono (by decide)) rfl g_L_rule k_L_rule b_L_rule .nil pass0 (pa_cons (pv 0) (pa_cons (pe_callB call_len_seq rfl f_len PySem.boot_len (pa_cons (pv 2) pa_nil)) pa_nil))))
      (pss_one (ps_ret (pe_tup (pa_cons (pv 1) (pa_cons (pv 2) (pa_cons (pe_ix ix_list (pe_lst (pa_cons (pv 3) (pa_cons (pe_tup (pa_cons pe_str (pa_cons pe_int pa_nil))) (pa_cons (pe_tup (pa_cons pe_str (pa_cons (pe_tup pa_nil) pa_nil))) pa_nil)))) (pe_call G_L_next (hr.mono (by decide)) rfl g_L_next k_L_next b_L_next .nil pass0 (pa_cons (pv 0) (pa_cons pe_int pa_nil))) (fun _ _ => rfl)) pa_nil))))))))
theorem ok_need_values (X : K.In h) (G : h.Ns mainGlobals mg) (c : He.SaysD fa fn K) : OkF P w K mg d_need_values 1 ["values"] (sp_need_values (ZZ K)) := by
  obtain ⟨fd, F0⟩ := c.def_ 7 (d := d_need_values) rfl
  have F : FunD K "need_values" "need_values" (defArgs s_need_values) (defBody s_need_values) (defScope s_need_values) [] [] (He.fAd K ("need_values", none)) fd := F0
  have f_len : mg "len" = none := He.free_ok X G (c.fact 24 (f := .free "len") rfl)
  have f_range : mg "range" = none := He.free_ok X G (c.fact 28 (f := .free "range") rfl)
  have gi_MOST_VALUES : ∃ t, mg "MOST_VALUES" = some (.int 6 t) := He.int_ok X G (c.fact 35 (f := .int "MOST_VALUES" 6) rfl)
  have gi_MOST_VALUE : ∃ t, mg "MOST_VALUE" = some (.int 99 t) := He.int_ok X G (c.fact 36 (f := .int "MOST_VALUE" 99) rfl)
  refine ⟨fd, fun base => ?_, F.bindsN (fun _ _ _ _ _ _ us hl => match us, hl with | [_], _ => rfl), F0.kp, F0⟩
  refine F.ok sc_need_values (fun vs H Q E h => len_need_values h) (fun cdv A outer s H vs Q E hr h => ⟨t_need_values (ZZ K), PSs.nox ?_, pure_need_values (zok c) vs H Q E h⟩)
  exact pss_cons (ps_if (pt_cmpR op_gt (pe_callB call_len_seq rfl f_len PySem.boot_len (pa_cons (pv 0) pa_nil)) (pe_glob rfl gi_MOST_VALUES.choose_spec ⟨_, rfl⟩) (nomark _)) (pss_one (ps_never)) (pss_nil))
      (pss_one (ps_for PassesOwn.never rfl (pi_range1 rfl f_range (pa_cons (pe_callB call_len_seq rfl f_len PySem.boot_len (pa_cons (pv 0) pa_nil)) pa_nil)) (pg_name (i := 1) sc_need_values.nd rfl (Or.inl rfl)) (pss_one (ps_if (pt_not (pt_chain op_le op_le pe_int (pe_ix ix_list (pv 0) (pv 1) (fun _ _ => rfl)) (pe_glob rfl gi_MOST_VALUE.choose_spec ⟨_, rfl⟩))) (pss_one (ps_never)) (pss_nil)))))
theorem ok_is_deed (X : K.In h) (G : h.Ns mainGlobals mg) (c : He.SaysD fa fn K) : OkF P w K mg d_is_deed 1 ["deed"] (sp_is_deed (ZZ K)) := by
  obtain ⟨fd, F0⟩ := c.def_ 8 (d := d_is_deed) rfl
  have F : FunD K "is_deed" "is_deed" (defArgs s_is_deed) (defBody s_is_deed) (defScope s_is_deed) [] [] (He.fAd K ("is_deed", none)) fd := F0
  have f_len : mg "len" = none := He.free_ok X G (c.fact 24 (f := .free "len") rfl)
  have gi_MOST_VALUE : ∃ t, mg "MOST_VALUE" = some (.int 99 t) := He.int_ok X G (c.fact 36 (f := .int "MOST_VALUE" 99) rfl)
  refine ⟨fd, fun base => ?_, F.bindsN (fun _ _ _ _ _ _ us hl => match us, hl with | [_], _ => rfl), F0.kp, F0⟩
  refine F.ok sc_is_deed (fun vs H Q E h => len_is_deed h) (fun cdv A outer s H vs Q E hr h => ⟨t_is_deed (ZZ K), PSs.nox ?_, pure_is_deed (zok c) vs H Q E h⟩)
  exact pss_cons (ps_if (pt_cmpR op_eq (pe_callB call_len_seq rfl f_len PySem.boot_len (pa_cons (pv 0) pa_nil)) pe_int (nomark _)) (pss_one (ps_ret pe_bl)) (pss_nil))
      (pss_cons (ps_if (pt_cmpR op_eq (pe_ix ix_tup (pv 0) pe_int (fun _ _ => rfl)) pe_str (nomark _)) (pss_one (ps_ret (pe_cmpR op_eq (pe_callB call_len_seq rfl f_len PySem.boot_len (pa_cons (pv 0) pa_nil)) pe_int (nomark _)))) (pss_nil))
      (pss_one (ps_ret (pe_and (pe_cmpR op_eq (pe_ix ix_tup (pv 0) pe_int (fun _ _ => rfl)) pe_str (nomark _)) (pe_and (pe_cmpR op_eq (pe_callB call_len_seq rfl f_len PySem.boot_len (pa_cons (pv 0) pa_nil)) pe_int (nomark _)) (pe_one (pe_chain op_le op_le pe_int (pe_ix ix_tup (pv 0) pe_int (fun _ _ => rfl)) (pe_glob rfl gi_MOST_VALUE.choose_spec ⟨_, rfl⟩))))))))
theorem ok_need_deeds (X : K.In h) (G : h.Ns mainGlobals mg) (c : He.SaysD fa fn K) : OkF P w K mg d_need_deeds 2 ["deeds", "hand"] (sp_need_deeds (ZZ K)) := by
  obtain ⟨fd, F0⟩ := c.def_ 9 (d := d_need_deeds) rfl
  have F : FunD K "need_deeds" "need_deeds" (defArgs s_need_deeds) (defBody s_need_deeds) (defScope s_need_deeds) [] [] (He.fAd K ("need_deeds", none)) fd := F0
  obtain ⟨fd_is_deed, GA_is_deed, b_is_deed, k_is_deed, _⟩ := ok_is_deed (P := P) (w := w) X G c
  have g_is_deed : mg "is_deed" = some (.ref (He.ga K "is_deed")) := He.glo_ok X G (c.fact 37 (f := .glo "is_deed") rfl)
  have f_len : mg "len" = none := He.free_ok X G (c.fact 24 (f := .free "len") rfl)
  have f_range : mg "range" = none := He.free_ok X G (c.fact 28 (f := .free "range") rfl)
  refine ⟨fd, fun base => ?_, F.bindsN (fun _ _ _ _ _ _ us hl => match us, hl with | [_, _], _ => rfl), F0.kp, F0⟩
  have G_is_deed := GA_is_deed base
  refine F.ok sc_need_deeds (fun vs H Q E h => len_need_deeds h) (fun cdv A outer s H vs Q E hr h => ⟨t_need_deeds (ZZ K), PSs.nox ?_, pure_need_deeds (zok c) vs H Q E h⟩)
  exact pss_one (ps_for PassesOwn.never rfl (pi_range1 rfl f_range (pa_cons (pe_callB call_len_seq rfl f_len PySem.boot_len (pa_cons (pv 0) pa_nil)) pa_nil)) (pg_name (i := 2) sc_need_deeds.nd rfl (Or.inl rfl)) (pss_one (ps_if (pt_not (pt_val (pe_call G_is_deed (hr.mono (by decide)) rfl g_is_deed k_is_deed b_is_deed .nil pass0 (pa_cons (pe_ix ix_list (pv 0) (pv 2) (fun _ _ => rfl)) pa_nil)))) (pss_one (ps_never)) (pss_nil))))
theorem ok_need_programs (X : K.In h) (G : h.Ns mainGlobals mg) (c : He.SaysD fa fn K) : OkF P w K mg d_need_programs 3 ["programs"] (sp_need_programs (ZZ K)) := by
  obtain ⟨fd, F0⟩ := c.def_ 10 (d := d_need_programs) rfl
  have F : FunD K "need_programs" "need_programs" (defArgs s_need_programs) (defBody s_need_programs) (defScope s_need_programs) [] [] (He.fAd K ("need_programs", none)) fd := F0
  obtain ⟨fd_need_deeds, GA_need_deeds, b_need_deeds, k_need_deeds, _⟩ := ok_need_deeds (P := P) (w := w) X G c
  have g_need_deeds : mg "need_deeds" = some (.ref (He.ga K "need_deeds")) := He.glo_ok X G (c.fact 38 (f := .glo "need_deeds") rfl)
  have f_len : mg "len" = none := He.free_ok X G (c.fact 24 (f := .free "len") rfl)
  have f_range : mg "range" = none := He.free_ok X G (c.fact 28 (f := .free "range") rfl)
  have gi_MOST_HANDS : ∃ t, mg "MOST_HANDS" = some (.int 3 t) := He.int_ok X G (c.fact 40 (f := .int "MOST_HANDS" 3) rfl)
  have gi_MOST_DEEDS : ∃ t, mg "MOST_DEEDS" = some (.int 4 t) := He.int_ok X G (c.fact 41 (f := .int "MOST_DEEDS" 4) rfl)
  refine ⟨fd, fun base => ?_, F.bindsN (fun _ _ _ _ _ _ us hl => match us, hl with | [_], _ => rfl), F0.kp, F0⟩
  have G_need_deeds := GA_need_deeds base
  refine F.ok sc_need_programs (fun vs H Q E h => len_need_programs h) (fun cdv A outer s H vs Q E hr h => ⟨t_need_programs (ZZ K), PSs.nox ?_, pure_need_programs (zok c) vs H Q E h⟩)
  exact pss_cons (ps_if (pt_not (pt_chain op_le op_le pe_int (pe_callB call_len_seq rfl f_len PySem.boot_len (pa_cons (pv 0) pa_nil)) (pe_glob rfl gi_MOST_HANDS.choose_spec ⟨_, rfl⟩))) (pss_one (ps_never)) (pss_nil))
      (pss_one (ps_for PassesOwn.never rfl (pi_range1 rfl f_range (pa_cons (pe_callB call_len_seq rfl f_len PySem.boot_len (pa_cons (pv 0) pa_nil)) pa_nil)) (pg_name (i := 1) sc_need_programs.nd rfl (Or.inl rfl)) (pss_cons (ps_if (pt_cmpR op_gt (pe_callB call_len_seq rfl f_len PySem.boot_len (pa_cons (pe_ix ix_list (pv 0) (pv 1) (fun _ _ => rfl)) pa_nil)) (pe_glob rfl gi_MOST_DEEDS.choose_spec ⟨_, rfl⟩) (nomark _)) (pss_one (ps_never)) (pss_nil))
      (pss_one (ps_expr (pe_call G_need_deeds (hr.mono (by decide)) rfl g_need_deeds k_need_deeds b_need_deeds .nil pass0 (pa_cons (pe_ix ix_list (pv 0) (pv 1) (fun _ _ => rfl)) (pa_cons (pv 1) pa_nil))))))))
theorem ok_need_rule (X : K.In h) (G : h.Ns mainGlobals mg) (c : He.SaysD fa fn K) : OkF P w K mg d_need_rule 1 ["rule", "many"] (sp_need_rule (ZZ K)) := by
  obtain ⟨fd, F0⟩ := c.def_ 11 (d := d_need_rule) rfl
  have F : FunD K "need_rule" "need_rule" (defArgs s_need_rule) (defBody s_need_rule) (defScope s_need_rule) [] [] (He.fAd K ("need_rule", none)) fd := F0
  have f_len : mg "len" = none := He.free_ok X G (c.fact 24 (f := .free "len") rfl)
  have f_range : mg "range" = none := He.free_ok X G (c.fact 28 (f := .free "range") rfl)
  have gi_MOST_COUNTS : ∃ t, mg "MOST_COUNTS" = some (.int 15 t) := He.int_ok X G (c.fact 43 (f := .int "MOST_COUNTS" 15) rfl)
  refine ⟨fd, fun base => ?_, F.bindsN (fun _ _ _ _ _ _ us hl => match us, hl with | [_, _], _ => rfl), F0.kp, F0⟩
  refine F.ok sc_need_rule (fun vs H Q E h => len_need_rule h) (fun cdv A outer s H vs Q E hr h => ⟨t_need_rule (ZZ K), PSs.nox ?_, pure_need_rule (zok c) vs H Q E h⟩)
  exact pss_cons (ps_if (pt_cmpR (op_eqD hr.units) (pv 0) (pe_tup (pa_cons pe_str pa_nil)) (nomark _)) (pss_one (ps_retN)) (pss_nil))
      (pss_cons (ps_if (PW.pt (pw_or (pt_cmpR op_ne (pe_callB call_len_seq rfl f_len PySem.boot_len (pa_cons (pv 0) pa_nil)) pe_int (nomark _)) (pw_or1 (pt_cmpR op_notIn_seq (pe_ix ix_tup (pv 0) pe_int (fun _ _ => rfl)) (pe_tup (pa_cons pe_str (pa_cons pe_str pa_nil))) (by rfl))))) (pss_one (ps_never)) (pss_nil))
      (pss_one (ps_if (pt_cmpR op_eq (pe_ix ix_tup (pv 0) pe_int (fun _ _ => rfl)) pe_str (nomark _)) (pss_one (ps_if (pt_not (pt_chain op_le op_le pe_int (pe_ix ix_tup (pv 0) pe_int (fun _ _ => rfl)) (pe_glob rfl gi_MOST_COUNTS.choose_spec ⟨_, rfl⟩))) (pss_one (ps_never)) (pss_nil))) (pss_one (ps_for PassesOwn.never rfl (pi_range1 rfl f_range (pa_cons (pe_callB call_len_seq rfl f_len PySem.boot_len (pa_cons (pe_ix ix_tup (pv 0) pe_int (fun _ _ => rfl)) pa_nil)) pa_nil)) (pg_name (i := 2) sc_need_rule.nd rfl (Or.inl rfl)) (pss_one (ps_if (PW.pt (pw_or (pt_not (pt_chain op_le op_lt pe_int (pe_ix ix_tup (pe_ix ix_tup (pv 0) pe_int (fun _ _ => rfl)) (pv 2) (fun _ _ => rfl)) (pv 1))) (pw_or1 (PW.pt (pw_and (pt_cmpR op_gt (pv 2) pe_int (nomark _)) (pw_and1 (pt_cmpR op_le (pe_ix ix_tup (pe_ix ix_tup (pv 0) pe_int (fun _ _ => rfl)) (pv 2) (fun _ _ => rfl)) (pe_ix ix_tup (pe_ix ix_tup (pv 0) pe_int (fun _ _ => rfl)) (pe_op op_sub (pv 2) pe_int) (fun _ _ => rfl)) (nomark _)))))))) (pss_one (ps_never)) (pss_nil))))))))
theorem ok_H_init (X : K.In h) (G : h.Ns mainGlobals mg) (c : He.SaysD fa fn K) : OkF P w K mg d_H_init 1 ["self", "program"] (sp_H_init (ZZ K)) := by
  obtain ⟨fd, F0⟩ := c.def_ 12 (d := d_H_init) rfl
  have F : FunD K "__init__" "Hand.__init__" (defArgs s_H_init) (defBody s_H_init) (defScope s_H_init) [] [] (He.fAd K ("Hand", some "__init__")) fd := F0
  have f_list : mg "list" = none := He.free_ok X G (c.fact 44 (f := .free "list") rfl)
  refine ⟨fd, fun base => ?_, F.bindsN (fun _ _ _ _ _ _ us hl => match us, hl with | [_, _], _ => rfl), F0.kp, F0⟩
  refine F.ok sc_H_init (fun vs H Q E h => len_H_init h) (fun cdv A outer s H vs Q E hr h => ⟨t_H_init (ZZ K), PSs.nox ?_, pure_H_init (zok c) vs H Q E h⟩)
  exact pss_cons (ps_fld (pv 0) (pe_callTy call_list_of rfl f_list (by decide +kernel) (pa_cons (pv 1) pa_nil)) rfl)
      (pss_cons (ps_fld (pv 0) pe_int rfl)
      (pss_cons (ps_fld (pv 0) pe_int rfl)
      (pss_cons (ps_fld (pv 0) pe_non rfl)
      (pss_cons (ps_fld (pv 0) pe_non rfl)
      (pss_cons (ps_fld (pv 0) pe_int rfl)
      (pss_cons (ps_fld (pv 0) pe_bl rfl)
      (pss_one (ps_fld (pv 0) (pe_lst pa_nil) rfl))))))))
theorem ok_M_init (X : K.In h) (G : h.Ns mainGlobals mg) (c : He.SaysD fa fn K) : OkF P w K mg d_M_init 4 ["self", "values", "programs", "rule"] (sp_M_init (ZZ K)) := by
  obtain ⟨fd, F0⟩ := c.def_ 13 (d := d_M_init) rfl
  have F : FunD K "__init__" "Machine.__init__" (defArgs s_M_init) (defBody s_M_init) (defScope s_M_init) [] [] (He.fAd K ("Machine", some "__init__")) fd := F0
  obtain ⟨fd_need_values, GA_need_values, b_need_values, k_need_values, _⟩ := ok_need_values (P := P) (w := w) X G c
  have g_need_values : mg "need_values" = some (.ref (He.ga K "need_values")) := He.glo_ok X G (c.fact 34 (f := .glo "need_values") rfl)
  obtain ⟨fd_need_programs, GA_need_programs, b_need_programs, k_need_programs, _⟩ := ok_need_programs (P := P) (w := w) X G c
  have g_need_programs : mg "need_programs" = some (.ref (He.ga K "need_programs")) := He.glo_ok X G (c.fact 39 (f := .glo "need_programs") rfl)
  obtain ⟨fd_need_rule, GA_need_rule, b_need_rule, k_need_rule, _⟩ := ok_need_rule (P := P) (w := w) X G c
  have g_need_rule : mg "need_rule" = some (.ref (He.ga K "need_rule")) := He.glo_ok X G (c.fact 42 (f := .glo "need_rule") rfl)
  obtain ⟨fd_H_init, GA_H_init, b_H_init, k_H_init, _⟩ := ok_H_init (P := P) (w := w) X G c
  have f_len : mg "len" = none := He.free_ok X G (c.fact 24 (f := .free "len") rfl)
  have f_list : mg "list" = none := He.free_ok X G (c.fact 44 (f := .free "list") rfl)
  have f_range : mg "range" = none := He.free_ok X G (c.fact 28 (f := .free "range") rfl)
  have mk_H : Mk K (He.ga K "Hand") (He.ma K (He.ga K "Hand") "__init__") := He.mkr_ok (c.fact 3 (f := .mkr "Hand") rfl)
  have g_Hand : mg "Hand" = some (.ref (He.ga K "Hand")) := He.glo_ok X G (c.fact 22 (f := .glo "Hand") rfl)
  refine ⟨fd, fun base => ?_, F.bindsN (fun _ _ _ _ _ _ us hl => match us, hl with | [_, _, _, _], _ => rfl), F0.kp, F0⟩
  have G_need_values := GA_need_values base
  have G_need_programs := GA_need_programs base
  have G_need_rule := GA_need_rule base
  have G_H_init := GA_H_init base
  refine F.ok sc_M_init (fun vs H Q E h => len_M_init h) (fun cdv A outer s H vs Q E hr h => ⟨t_M_init (ZZ K), PSs.nox ?_, pure_M_init (zok c) vs H Q E h⟩)
  exact pss_cons (ps_expr (pe_call G_need_values (hr.mono (by decide)) rfl g_need_values k_need_values b_need_values .nil pass0 (pa_cons (pv 1) pa_nil)))
      (pss_cons (ps_expr (pe_call G_need_programs (hr.mono (by decide)) rfl g_need_programs k_need_programs b_need_programs .nil pass0 (pa_cons (pv 2) pa_nil)))
      (pss_cons (ps_expr (pe_call G_need_rule (hr.mono (by decide)) rfl g_need_rule k_need_rule b_need_rule .nil pass0 (pa_cons (pv 3) (pa_cons (pe_callB call_len_seq rfl f_len PySem.boot_len (pa_cons (pv 2) pa_nil)) pa_nil))))
      (pss_cons (ps_fld (pv 0) (pv 3) rfl)
      (pss_cons (ps_fld (pv 0) (pe_callTy call_list_of rfl f_list (by decide +kernel) (pa_cons (pv 1) pa_nil)) rfl)
      (pss_cons (ps_fld (pv 0) (pe_listRg rfl rfl f_list (prg_1 rfl f_range (pe_callB call_len_seq rfl f_len PySem.boot_len (pa_cons (pv 1) pa_nil)))) rfl)
      (pss_cons (ps_fld (pv 0) (pe_callB call_len_seq rfl f_len PySem.boot_len (pa_cons (pv 1) pa_nil)) rfl)
      (pss_cons (ps_fld (pv 0) pe_int rfl)
      (pss_cons (ps_fld (pv 0) (pe_lst pa_nil) rfl)
      (pss_cons (ps_fld (pv 0) (pe_lc (own := [("program", 4)]) rfl sc_M_init.nd (pi_list (pv 2)) (blkOk_by (own := [("program", 4)]) (N := ["self", "values", "programs", "rule", "program"]) (sc := defScope s_M_init) (by decide +kernel)) (fun _ _ _ _ _ => (pg_name (i := 4) sc_M_init.nd rfl (Or.inl rfl))) (fun _ _ _ _ _ => pts_nil) (fun _ _ _ _ _ => (pe_make mk_H G_H_init (hr.mono (by decide)) rfl g_Hand b_H_init .nil pass0 (pa_cons (pv 4) pa_nil)))) rfl)
      (pss_cons (ps_fld (pv 0) (pe_lst pa_nil) rfl)
      (pss_one (ps_fld (pv 0) pe_bl rfl))))))))))))
theorem ok_H_state (X : K.In h) (G : h.Ns mainGlobals mg) (c : He.SaysD fa fn K) : OkF P w K mg d_H_state 1 ["self"] (sp_H_state (ZZ K)) := by
  obtain ⟨fd, F0⟩ := c.def_ 14 (d := d_H_state) rfl
  have F : FunD K "state" "Hand.state" (defArgs s_H_state) (defBody s_H_state) (defScope s_H_state) [] [] (He.fAd K ("Hand", some "state")) fd := F0
  refine ⟨fd, fun base => ?_, F.bindsN (fun _ _ _ _ _ _ us hl => match us, hl with | [_], _ => rfl), F0.kp, F0⟩
  refine F.ok sc_H_state (fun vs H Q E h => len_H_state h) (fun cdv A outer s H vs Q E hr h => ⟨t_H_state (ZZ K), PSs.nox ?_, pure_H_state (zok c) vs H Q E h⟩)
  exact pss_one (ps_ret (pe_tup (pa_cons (pe_fld (pv 0) rfl) (pa_cons (pe_fld (pv 0) rfl) (pa_cons (pe_fld (pv 0) rfl) (pa_cons (pe_fld (pv 0) rfl) (pa_cons (pe_fld (pv 0) rfl) (pa_cons (pe_fld (pv 0) rfl) pa_nil))))))))
theorem ok_M_state (X : K.In h) (G : h.Ns mainGlobals mg) (c : He.SaysD fa fn K) : OkF P w K mg d_M_state 2 ["self"] (sp_M_state (ZZ K)) := by
  obtain ⟨fd, F0⟩ := c.def_ 15 (d := d_M_state) rfl
  have F : FunD K "state" "Machine.state" (defArgs s_M_state) (defBody s_M_state) (defScope s_M_state) [] [] (He.fAd K ("Machine", some "state")) fd := F0
  obtain ⟨fd_H_state, GA_H_state, b_H_state, k_H_state, _⟩ := ok_H_state (P := P) (w := w) X G c
  have m_H_state : Meth K (He.ga K "Hand") "state" (He.ma K (He.ga K "Hand") "state") := He.meth_ok (c.fact 45 (f := .meth "Hand" "state") rfl)
  have f_tuple : mg "tuple" = none := He.free_ok X G (c.fact 32 (f := .free "tuple") rfl)
  have cl_H : Cls K (He.ga K "Hand") := He.cls_ok (c.fact 1 (f := .cls "Hand") rfl)
  refine ⟨fd, fun base => ?_, F.bindsN (fun _ _ _ _ _ _ us hl => match us, hl with | [_], _ => rfl), F0.kp, F0⟩
  have G_H_state := GA_H_state base
  refine F.ok sc_M_state (fun vs H Q E h => len_M_state h) (fun cdv A outer s H vs Q E hr h => ⟨t_M_state (ZZ K), PSs.nox ?_, pure_M_state (zok c) vs H Q E h⟩)
  exact pss_cons (ps_set (i := 1) sc_M_state.nd rfl (Or.inl rfl) (pe_callTy call_tuple_of rfl f_tuple (by decide +kernel) (pa_cons (pe_lc (own := [("hand", 2)]) rfl sc_M_state.nd (pi_list (pe_fld (pv 0) rfl)) (blkOk_by (own := [("hand", 2)]) (N := ["self", "hands", "hand"]) (sc := defScope s_M_state) (by decide +kernel)) (fun _ _ _ _ _ => (pg_name (i := 2) sc_M_state.nd rfl (Or.inl rfl))) (fun _ _ _ _ _ => pts_nil) (fun _ _ _ _ _ => (pe_meth0 (pv 2) cl_H m_H_state G_H_state (hr.mono (by decide)) b_H_state .nil pass0))) pa_nil)))
      (pss_one (ps_ret (pe_tup (pa_cons (pe_callTy call_tuple_of rfl f_tuple (by decide +kernel) (pa_cons (pe_fld (pv 0) rfl) pa_nil)) (pa_cons (pe_fld (pv 0) rfl) (pa_cons (pe_fld (pv 0) rfl) (pa_cons (pe_callTy call_tuple_of rfl f_tuple (by decide +kernel) (pa_cons (pe_fld (pv 0) rfl) pa_nil)) (pa_cons (pv 1) pa_nil))))))))
theorem ok_M_rests (X : K.In h) (G : h.Ns mainGlobals mg) (c : He.SaysD fa fn K) : OkF P w K mg d_M_rests 1 ["self", "hand"] (sp_M_rests (ZZ K)) := by
  obtain ⟨fd, F0⟩ := c.def_ 16 (d := d_M_rests) rfl
  have F : FunD K "rests" "Machine.rests" (defArgs s_M_rests) (defBody s_M_rests) (defScope s_M_rests) [] [] (He.fAd K ("Machine", some "rests")) fd := F0
  have f_len : mg "len" = none := He.free_ok X G (c.fact 24 (f := .free "len") rfl)
  refine ⟨fd, fun base => ?_, F.bindsN (fun _ _ _ _ _ _ us hl => match us, hl with | [_, _], _ => rfl), F0.kp, F0⟩
  refine F.ok sc_M_rests (fun vs H Q E h => len_M_rests h) (fun cdv A outer s H vs Q E hr h => ⟨t_M_rests (ZZ K), PSs.nox ?_, pure_M_rests (zok c) vs H Q E h⟩)
  exact pss_one (ps_ret (pe_cmpR op_eq (pe_fld (pe_ix ix_list (pe_fld (pv 0) rfl) (pv 1) (fun _ _ => rfl)) rfl) (pe_callB call_len_seq rfl f_len PySem.boot_len (pa_cons (pe_fld (pe_ix ix_list (pe_fld (pv 0) rfl) (pv 1) (fun _ _ => rfl)) rfl) pa_nil)) (nomark _)))
theorem ok_H_twin (X : K.In h) (G : h.Ns mainGlobals mg) (c : He.SaysD fa fn K) : OkF P w K mg d_H_twin 3 ["self"] (sp_H_twin (ZZ K)) := by
  obtain ⟨fd, F0⟩ := c.def_ 17 (d := d_H_twin) rfl
  have F : FunD K "twin" "Hand.twin" (defArgs s_H_twin) (defBody s_H_twin) (defScope s_H_twin) [] [] (He.fAd K ("Hand", some "twin")) fd := F0
  obtain ⟨fd_H_init, GA_H_init, b_H_init, k_H_init, _⟩ := ok_H_init (P := P) (w := w) X G c
  have f_list : mg "list" = none := He.free_ok X G (c.fact 44 (f := .free "list") rfl)
  have mk_H : Mk K (He.ga K "Hand") (He.ma K (He.ga K "Hand") "__init__") := He.mkr_ok (c.fact 3 (f := .mkr "Hand") rfl)
  have g_Hand : mg "Hand" = some (.ref (He.ga K "Hand")) := He.glo_ok X G (c.fact 22 (f := .glo "Hand") rfl)
  refine ⟨fd, fun base => ?_, F.bindsN (fun _ _ _ _ _ _ us hl => match us, hl with | [_], _ => rfl), F0.kp, F0⟩
  have G_H_init := GA_H_init base
  refine F.ok sc_H_twin (fun vs H Q E h => len_H_twin h) (fun cdv A outer s H vs Q E hr h => ⟨t_H_twin (ZZ K), PSs.nox ?_, pure_H_twin (zok c) vs H Q E h⟩)
  exact pss_cons (ps_set (i := 1) sc_H_twin.nd rfl (Or.inl rfl) (pe_make mk_H G_H_init (hr.mono (by decide)) rfl g_Hand b_H_init .nil pass0 (pa_cons (pe_fld (pv 0) rfl) pa_nil)))
      (pss_cons (ps_fld (pv 1) (pe_fld (pv 0) rfl) rfl)
      (pss_cons (ps_fld (pv 1) (pe_fld (pv 0) rfl) rfl)
      (pss_cons (ps_fld (pv 1) (pe_fld (pv 0) rfl) rfl)
      (pss_cons (ps_fld (pv 1) (pe_fld (pv 0) rfl) rfl)
      (pss_cons (ps_fld (pv 1) (pe_fld (pv 0) rfl) rfl)
      (pss_cons (ps_fld (pv 1) (pe_fld (pv 0) rfl) rfl)
      (pss_cons (ps_fld (pv 1) (pe_callTy call_list_of rfl f_list (by decide +kernel) (pa_cons (pe_fld (pv 0) rfl) pa_nil)) rfl)
      (pss_one (ps_ret (pv 1))))))))))
theorem ok_M_twin (X : K.In h) (G : h.Ns mainGlobals mg) (c : He.SaysD fa fn K) : OkF P w K mg d_M_twin 6 ["self"] (sp_M_twin (ZZ K)) := by
  obtain ⟨fd, F0⟩ := c.def_ 18 (d := d_M_twin) rfl
  have F : FunD K "twin" "Machine.twin" (defArgs s_M_twin) (defBody s_M_twin) (defScope s_M_twin) [] [] (He.fAd K ("Machine", some "twin")) fd := F0
  obtain ⟨fd_M_init, GA_M_init, b_M_init, k_M_init, _⟩ := ok_M_init (P := P) (w := w) X G c
  obtain ⟨fd_H_twin, GA_H_twin, b_H_twin, k_H_twin, _⟩ := ok_H_twin (P := P) (w := w) X G c
  have m_H_twin : Meth K (He.ga K "Hand") "twin" (He.ma K (He.ga K "Hand") "twin") := He.meth_ok (c.fact 48 (f := .meth "Hand" "twin") rfl)
  have f_list : mg "list" = none := He.free_ok X G (c.fact 44 (f := .free "list") rfl)
  have cl_H : Cls K (He.ga K "Hand") := He.cls_ok (c.fact 1 (f := .cls "Hand") rfl)
  have mk_M : Mk K (He.ga K "Machine") (He.ma K (He.ga K "Machine") "__init__") := He.mkr_ok (c.fact 2 (f := .mkr "Machine") rfl)
  have g_Machine : mg "Machine" = some (.ref (He.ga K "Machine")) := He.glo_ok X G (c.fact 21 (f := .glo "Machine") rfl)
  refine ⟨fd, fun base => ?_, F.bindsN (fun _ _ _ _ _ _ us hl => match us, hl with | [_], _ => rfl), F0.kp, F0⟩
  have G_M_init := GA_M_init base
  have G_H_twin := GA_H_twin base
  refine F.ok sc_M_twin (fun vs H Q E h => len_M_twin h) (fun cdv A outer s H vs Q E hr h => ⟨t_M_twin (ZZ K), PSs.nox ?_, pure_M_twin (zok c) vs H Q E h⟩)
  exact pss_cons (ps_set (i := 1) sc_M_twin.nd rfl (Or.inl rfl) (pe_make mk_M G_M_init (hr.mono (by decide)) rfl g_Machine b_M_init .nil pass0 (pa_cons (pe_lst pa_nil) (pa_cons (pe_lst (pa_cons (pe_lst pa_nil) pa_nil)) (pa_cons (pe_tup (pa_cons pe_str pa_nil)) pa_nil)))))
      (pss_cons (ps_fld (pv 1) (pe_fld (pv 0) rfl) rfl)
      (pss_cons (ps_fld (pv 1) (pe_callTy call_list_of rfl f_list (by decide +kernel) (pa_cons (pe_fld (pv 0) rfl) pa_nil)) rfl)
      (pss_cons (ps_fld (pv 1) (pe_callTy call_list_of rfl f_list (by decide +kernel) (pa_cons (pe_fld (pv 0) rfl) pa_nil)) rfl)
      (pss_cons (ps_fld (pv 1) (pe_fld (pv 0) rfl) rfl)
      (pss_cons (ps_fld (pv 1) (pe_fld (pv 0) rfl) rfl)
      (pss_cons (ps_fld (pv 1) (pe_callTy call_list_of rfl f_list (by decide +kernel) (pa_cons (pe_fld (pv 0) rfl) pa_nil)) rfl)
      (pss_cons (ps_fld (pv 1) (pe_lc (own := [("hand", 2)]) rfl sc_M_twin.nd (pi_list (pe_fld (pv 0) rfl)) (blkOk_by (own := [("hand", 2)]) (N := ["self", "found", "hand"]) (sc := defScope s_M_twin) (by decide +kernel)) (fun _ _ _ _ _ => (pg_name (i := 2) sc_M_twin.nd rfl (Or.inl rfl))) (fun _ _ _ _ _ => pts_nil) (fun _ _ _ _ _ => (pe_meth0 (pv 2) cl_H m_H_twin G_H_twin (hr.mono (by decide)) b_H_twin .nil pass0))) rfl)
      (pss_cons (ps_fld (pv 1) (pe_callTy call_list_of rfl f_list (by decide +kernel) (pa_cons (pe_fld (pv 0) rfl) pa_nil)) rfl)
      (pss_cons (ps_fld (pv 1) (pe_fld (pv 0) rfl) rfl)
      (pss_one (ps_ret (pv 1))))))))))))
theorem ok_M_need_hand (X : K.In h) (G : h.Ns mainGlobals mg) (c : He.SaysD fa fn K) : OkF P w K mg d_M_need_hand 1 ["self", "hand"] (sp_M_need_hand (ZZ K)) := by
  obtain ⟨fd, F0⟩ := c.def_ 19 (d := d_M_need_hand) rfl
  have F : FunD K "need_hand" "Machine.need_hand" (defArgs s_M_need_hand) (defBody s_M_need_hand) (defScope s_M_need_hand) [] [] (He.fAd K ("Machine", some "need_hand")) fd := F0
  have f_len : mg "len" = none := He.free_ok X G (c.fact 24 (f := .free "len") rfl)
  refine ⟨fd, fun base => ?_, F.bindsN (fun _ _ _ _ _ _ us hl => match us, hl with | [_, _], _ => rfl), F0.kp, F0⟩
  refine F.ok sc_M_need_hand (fun vs H Q E h => len_M_need_hand h) (fun cdv A outer s H vs Q E hr h => ⟨t_M_need_hand (ZZ K), PSs.nox ?_, pure_M_need_hand (zok c) vs H Q E h⟩)
  exact pss_cons (ps_if (pt_not (pt_chain op_le op_lt pe_int (pv 1) (pe_callB call_len_seq rfl f_len PySem.boot_len (pa_cons (pe_fld (pv 0) rfl) pa_nil)))) (pss_one (ps_never)) (pss_nil))
      (pss_one (ps_ret (pe_ix ix_list (pe_fld (pv 0) rfl) (pv 1) (fun _ _ => rfl))))
theorem ok_M_marks (X : K.In h) (G : h.Ns mainGlobals mg) (c : He.SaysD fa fn K) : OkF P w K mg d_M_marks 1 ["self"] (sp_M_marks (ZZ K)) := by
  obtain ⟨fd, F0⟩ := c.def_ 20 (d := d_M_marks) rfl
  have F : FunD K "marks" "Machine.marks" (defArgs s_M_marks) (defBody s_M_marks) (defScope s_M_marks) [] [] (He.fAd K ("Machine", some "marks")) fd := F0
  refine ⟨fd, fun base => ?_, F.bindsN (fun _ _ _ _ _ _ us hl => match us, hl with | [_], _ => rfl), F0.kp, F0⟩
  refine F.ok sc_M_marks (fun vs H Q E h => len_M_marks h) (fun cdv A outer s H vs Q E hr h => ⟨t_M_marks (ZZ K), PSs.nox ?_, pure_M_marks (zok c) vs H Q E h⟩)
  exact pss_one (ps_ret (pe_lc (own := [("hand", 1)]) rfl sc_M_marks.nd (pi_list (pe_fld (pv 0) rfl)) (blkOk_by (own := [("hand", 1)]) (N := ["self", "hand"]) (sc := defScope s_M_marks) (by decide +kernel)) (fun _ _ _ _ _ => (pg_name (i := 1) sc_M_marks.nd rfl (Or.inl rfl))) (fun _ _ _ _ _ => pts_one (pt_cmpR op_ne (pe_fld (pv 1) rfl) pe_int (nomark _))) (fun _ _ _ _ _ => (pe_fld (pv 1) rfl))))
theorem ok_M_taken (X : K.In h) (G : h.Ns mainGlobals mg) (c : He.SaysD fa fn K) : OkF P w K mg d_M_taken 2 ["self", "value"] (sp_M_taken (ZZ K)) := by
  obtain ⟨fd, F0⟩ := c.def_ 21 (d := d_M_taken) rfl
  have F : FunD K "taken" "Machine.taken" (defArgs s_M_taken) (defBody s_M_taken) (defScope s_M_taken) [] [] (He.fAd K ("Machine", some "taken")) fd := F0
  obtain ⟨fd_M_marks, GA_M_marks, b_M_marks, k_M_marks, _⟩ := ok_M_marks (P := P) (w := w) X G c
  have m_M_marks : Meth K (He.ga K "Machine") "marks" (He.ma K (He.ga K "Machine") "marks") := He.meth_ok (c.fact 51 (f := .meth "Machine" "marks") rfl)
  have f_list : mg "list" = none := He.free_ok X G (c.fact 44 (f := .free "list") rfl)
  have f_len : mg "len" = none := He.free_ok X G (c.fact 24 (f := .free "len") rfl)
  have cl_M : Cls K (He.ga K "Machine") := He.cls_ok (c.fact 0 (f := .cls "Machine") rfl)
  refine ⟨fd, fun base => ?_, F.bindsN (fun _ _ _ _ _ _ us hl => match us, hl with | [_, _], _ => rfl), F0.kp, F0⟩
  have G_M_marks := GA_M_marks base
  refine F.ok sc_M_taken (fun vs H Q E h => len_M_taken h) (fun cdv A outer s H vs Q E hr h => ⟨t_M_taken (ZZ K), PSs.nox ?_, pure_M_taken (zok c) vs H Q E h⟩)
  exact pss_cons (ps_for PassesOwn.never rfl (pi_list (pe_callTy call_list_of rfl f_list (by decide +kernel) (pa_cons (pe_fld (pv 0) rfl) pa_nil))) (pg_name (i := 2) sc_M_taken.nd rfl (Or.inl rfl)) (pss_one (ps_if (PW.pt (pw_and (pt_cmpR op_ne (pe_ix ix_tup (pe_fld (pv 0) rfl) pe_int (fun _ _ => rfl)) pe_str (nomark _)) (pw_and1 (pt_cmpR op_notIn_seq (pv 2) (pe_meth0 (pv 0) cl_M m_M_marks G_M_marks (hr.mono (by decide)) b_M_marks .nil pass0) (by rfl))))) (pss_cons (ps_expr (pe_bm PySem.F.plainAttrs_list PySem.F.slot_list_remove PySem.F.type_list_remove mt_remove (pe_fld (pv 0) rfl) (pa_cons (pv 2) pa_nil)))
      (pss_cons (ps_asg (pv 1) (pg_sub (pe_fld (pv 0) rfl) (pe_op op_sub (pv 2) pe_int) set_list))
      (pss_one (ps_ret (pv 2))))) (pss_nil))))
      (pss_cons (ps_expr (pe_bm PySem.F.plainAttrs_list PySem.F.slot_list_append PySem.F.type_list_append mt_append (pe_fld (pv 0) rfl) (pa_cons (pv 1) pa_nil)))
      (pss_cons (ps_expr (pe_bm PySem.F.plainAttrs_list PySem.F.slot_list_append PySem.F.type_list_append mt_append (pe_fld (pv 0) rfl) (pa_cons pe_int pa_nil)))
      (pss_one (ps_ret (pe_callB call_len_seq rfl f_len PySem.boot_len (pa_cons (pe_fld (pv 0) rfl) pa_nil))))))
theorem ok_M_forget (X : K.In h) (G : h.Ns mainGlobals mg) (c : He.SaysD fa fn K) : OkF P w K mg d_M_forget 1 ["self", "hand"] (sp_M_forget (ZZ K)) := by
  obtain ⟨fd, F0⟩ := c.def_ 22 (d := d_M_forget) rfl
  have F : FunD K "forget" "Machine.forget" (defArgs s_M_forget) (defBody s_M_forget) (defScope s_M_forget) [] [] (He.fAd K ("Machine", some "forget")) fd := F0
  refine ⟨fd, fun base => ?_, F.bindsN (fun _ _ _ _ _ _ us hl => match us, hl with | [_, _], _ => rfl), F0.kp, F0⟩
  refine F.ok sc_M_forget (fun vs H Q E h => len_M_forget h) (fun cdv A outer s H vs Q E hr h => ⟨t_M_forget (ZZ K), PSs.nox ?_, pure_M_forget (zok c) vs H Q E h⟩)
  exact pss_cons (ps_set (i := 2) sc_M_forget.nd rfl (Or.inl rfl) (pe_ix ix_list (pe_fld (pv 0) rfl) (pv 1) (fun _ _ => rfl)))
      (pss_cons (ps_fld (pv 2) pe_non rfl)
      (pss_cons (ps_fld (pv 2) pe_non rfl)
      (pss_one (ps_fld (pv 2) pe_bl rfl))))
theorem ok_M_ended (X : K.In h) (G : h.Ns mainGlobals mg) (c : He.SaysD fa fn K) : OkF P w K mg d_M_ended 2 ["self", "hand", "answer"] (sp_M_ended (ZZ K)) := by
  obtain ⟨fd, F0⟩ := c.def_ 23 (d := d_M_ended) rfl
  have F : FunD K "ended" "Machine.ended" (defArgs s_M_ended) (defBody s_M_ended) (defScope s_M_ended) [] [] (He.fAd K ("Machine", some "ended")) fd := F0
  obtain ⟨fd_M_forget, GA_M_forget, b_M_forget, k_M_forget, _⟩ := ok_M_forget (P := P) (w := w) X G c
  have m_M_forget : Meth K (He.ga K "Machine") "forget" (He.ma K (He.ga K "Machine") "forget") := He.meth_ok (c.fact 53 (f := .meth "Machine" "forget") rfl)
  have cl_M : Cls K (He.ga K "Machine") := He.cls_ok (c.fact 0 (f := .cls "Machine") rfl)
  refine ⟨fd, fun base => ?_, F.bindsN (fun _ _ _ _ _ _ us hl => match us, hl with | [_, _, _], _ => rfl), F0.kp, F0⟩
  have G_M_forget := GA_M_forget base
  refine F.ok sc_M_ended (fun vs H Q E h => len_M_ended h) (fun cdv A outer s H vs Q E hr h => ⟨t_M_ended (ZZ K), PSs.nox ?_, pure_M_ended (zok c) vs H Q E h⟩)
  exact pss_cons (ps_set (i := 3) sc_M_ended.nd rfl (Or.inl rfl) (pe_ix ix_list (pe_fld (pv 0) rfl) (pv 1) (fun _ _ => rfl)))
      (pss_cons (ps_expr (pe_bm PySem.F.plainAttrs_list PySem.F.slot_list_append PySem.F.type_list_append mt_append (pe_fld (pv 3) rfl) (pa_cons (pv 2) pa_nil)))
      (pss_cons (ps_fld (pv 3) (pe_op op_add (pe_fld (pv 3) rfl) pe_int) rfl)
      (pss_cons (ps_expr (pe_meth (pv 0) cl_M m_M_forget G_M_forget (hr.mono (by decide)) b_M_forget .nil pass0 (pa_cons (pv 1) pa_nil)))
      (pss_cons (ps_fld (pv 3) pe_int rfl)
      (pss_cons (ps_fld (pv 3) pe_int rfl)
      (pss_one (ps_ret (pe_tup (pa_cons pe_str (pa_cons (pv 2) pa_nil))))))))))
theorem ok_M_read (X : K.In h) (G : h.Ns mainGlobals mg) (c : He.SaysD fa fn K) : OkF P w K mg d_M_read 3 ["self", "hand"] (sp_M_read (ZZ K)) := by
  obtain ⟨fd, F0⟩ := c.def_ 24 (d := d_M_read) rfl
  have F : FunD K "read" "Machine.read" (defArgs s_M_read) (defBody s_M_read) (defScope s_M_read) [] [] (He.fAd K ("Machine", some "read")) fd := F0
  obtain ⟨fd_M_ended, GA_M_ended, b_M_ended, k_M_ended, _⟩ := ok_M_ended (P := P) (w := w) X G c
  have m_M_ended : Meth K (He.ga K "Machine") "ended" (He.ma K (He.ga K "Machine") "ended") := He.meth_ok (c.fact 54 (f := .meth "Machine" "ended") rfl)
  have cl_M : Cls K (He.ga K "Machine") := He.cls_ok (c.fact 0 (f := .cls "Machine") rfl)
  refine ⟨fd, fun base => ?_, F.bindsN (fun _ _ _ _ _ _ us hl => match us, hl with | [_, _], _ => rfl), F0.kp, F0⟩
  have G_M_ended := GA_M_ended base
  refine F.ok sc_M_read (fun vs H Q E h => len_M_read h) (fun cdv A outer s H vs Q E hr h => ⟨t_M_read (ZZ K), PSs.nox ?_, pure_M_read (zok c) vs H Q E h⟩)
  exact pss_cons (ps_set (i := 2) sc_M_read.nd rfl (Or.inl rfl) (pe_ix ix_list (pe_fld (pv 0) rfl) (pv 1) (fun _ _ => rfl)))
      (pss_cons (ps_if (PW.pt (pw_and (pt_cmpR op_eq (pe_fld (pv 0) rfl) pe_int (nomark _)) (pw_and1 (pt_cmpR op_eq (pe_ix ix_tup (pe_ix ix_list (pe_fld (pv 2) rfl) (pe_fld (pv 2) rfl) (fun _ _ => rfl)) pe_int (fun _ _ => rfl)) pe_str (nomark _))))) (pss_cons (ps_expr (pe_bm PySem.F.plainAttrs_list PySem.F.slot_list_append PySem.F.type_list_append mt_append (pe_fld (pv 0) rfl) (pa_cons (pe_tup (pa_cons (pv 1) (pa_cons (pe_fld (pv 2) rfl) pa_nil))) pa_nil)))
      (pss_one (ps_ret (pe_meth (pv 0) cl_M m_M_ended G_M_ended (hr.mono (by decide)) b_M_ended .nil pass0 (pa_cons (pv 1) (pa_cons pe_non pa_nil)))))) (pss_nil))
      (pss_cons (ps_fld (pv 2) (pe_tup (pa_cons (pe_fld (pv 0) rfl) (pa_cons (pe_fld (pv 0) rfl) pa_nil))) rfl)
      (pss_one (ps_ret (pe_tup (pa_cons pe_str (pa_cons (pe_fld (pv 0) rfl) pa_nil)))))))
theorem ok_M_exchange (X : K.In h) (G : h.Ns mainGlobals mg) (c : He.SaysD fa fn K) : OkF P w K mg d_M_exchange 2 ["self", "hand", "cell"] (sp_M_exchange (ZZ K)) := by
  obtain ⟨fd, F0⟩ := c.def_ 25 (d := d_M_exchange) rfl
  have F : FunD K "exchange" "Machine.exchange" (defArgs s_M_exchange) (defBody s_M_exchange) (defScope s_M_exchange) [] [] (He.fAd K ("Machine", some "exchange")) fd := F0
  obtain ⟨fd_M_forget, GA_M_forget, b_M_forget, k_M_forget, _⟩ := ok_M_forget (P := P) (w := w) X G c
  have m_M_forget : Meth K (He.ga K "Machine") "forget" (He.ma K (He.ga K "Machine") "forget") := He.meth_ok (c.fact 53 (f := .meth "Machine" "forget") rfl)
  have cl_M : Cls K (He.ga K "Machine") := He.cls_ok (c.fact 0 (f := .cls "Machine") rfl)
  refine ⟨fd, fun base => ?_, F.bindsN (fun _ _ _ _ _ _ us hl => match us, hl with | [_, _, _], _ => rfl), F0.kp, F0⟩
  have G_M_forget := GA_M_forget base
  refine F.ok sc_M_exchange (fun vs H Q E h => len_M_exchange h) (fun cdv A outer s H vs Q E hr h => ⟨t_M_exchange (ZZ K), PSs.nox ?_, pure_M_exchange (zok c) vs H Q E h⟩)
  exact pss_cons (ps_if (pt_cmpR (op_neD hr.units) (pe_tup (pa_cons (pe_fld (pv 0) rfl) (pa_cons (pe_fld (pv 0) rfl) pa_nil))) (pe_fld (pe_ix ix_list (pe_fld (pv 0) rfl) (pv 1) (fun _ _ => rfl)) rfl) (nomark _)) (pss_cons (ps_expr (pe_meth (pv 0) cl_M m_M_forget G_M_forget (hr.mono (by decide)) b_M_forget .nil pass0 (pa_cons (pv 1) pa_nil)))
      (pss_one (ps_ret pe_bl))) (pss_nil))
      (pss_cons (ps_fld (pv 0) (pv 2) rfl)
      (pss_cons (ps_if (pt_cmpR op_eq (pe_ix ix_tup (pe_fld (pv 0) rfl) pe_int (fun _ _ => rfl)) pe_str (nomark _)) (pss_one (ps_fld (pv 0) (pe_op op_mod (pe_op op_add (pe_fld (pv 0) rfl) pe_int) (pe_ix ix_tup (pe_fld (pv 0) rfl) pe_int (fun _ _ => rfl))) rfl)) (pss_nil))
      (pss_cons (ps_expr (pe_bm PySem.F.plainAttrs_list PySem.F.slot_list_append PySem.F.type_list_append mt_append (pe_fld (pv 0) rfl) (pa_cons (pe_tup (pa_cons (pv 1) (pa_cons (pe_fld (pe_ix ix_list (pe_fld (pv 0) rfl) (pv 1) (fun _ _ => rfl)) rfl) pa_nil))) pa_nil)))
      (pss_one (ps_ret pe_bl)))))
theorem ok_M_push (X : K.In h) (G : h.Ns mainGlobals mg) (c : He.SaysD fa fn K) : OkF P w K mg d_M_push 3 ["self", "hand"] (sp_M_push (ZZ K)) := by
  obtain ⟨fd, F0⟩ := c.def_ 26 (d := d_M_push) rfl
  have F : FunD K "push" "Machine.push" (defArgs s_M_push) (defBody s_M_push) (defScope s_M_push) [] [] (He.fAd K ("Machine", some "push")) fd := F0
  obtain ⟨fd_M_exchange, GA_M_exchange, b_M_exchange, k_M_exchange, _⟩ := ok_M_exchange (P := P) (w := w) X G c
  have m_M_exchange : Meth K (He.ga K "Machine") "exchange" (He.ma K (He.ga K "Machine") "exchange") := He.meth_ok (c.fact 56 (f := .meth "Machine" "exchange") rfl)
  obtain ⟨fd_M_ended, GA_M_ended, b_M_ended, k_M_ended, _⟩ := ok_M_ended (P := P) (w := w) X G c
  have m_M_ended : Meth K (He.ga K "Machine") "ended" (He.ma K (He.ga K "Machine") "ended") := He.meth_ok (c.fact 54 (f := .meth "Machine" "ended") rfl)
  have cl_M : Cls K (He.ga K "Machine") := He.cls_ok (c.fact 0 (f := .cls "Machine") rfl)
  refine ⟨fd, fun base => ?_, F.bindsN (fun _ _ _ _ _ _ us hl => match us, hl with | [_, _], _ => rfl), F0.kp, F0⟩
  have G_M_exchange := GA_M_exchange base
  have G_M_ended := GA_M_ended base
  refine F.ok sc_M_push (fun vs H Q E h => len_M_push h) (fun cdv A outer s H vs Q E hr h => ⟨t_M_push (ZZ K), PSs.nox ?_, pure_M_push (zok c) vs H Q E h⟩)
  exact pss_cons (ps_set (i := 2) sc_M_push.nd rfl (Or.inl rfl) (pe_ix ix_list (pe_fld (pv 0) rfl) (pv 1) (fun _ _ => rfl)))
      (pss_cons (ps_if (pt_cmpR op_isN (pe_fld (pv 2) rfl) pe_non (nomark _)) (pss_cons (ps_fld (pv 2) (pe_ix ix_tup (pe_fld (pv 2) rfl) pe_int (fun _ _ => rfl)) rfl)
      (pss_cons (ps_asg (pe_fld (pv 2) rfl) (pg_sub (pe_fld (pv 0) rfl) (pe_op op_sub (pe_fld (pv 2) rfl) pe_int) set_list))
      (pss_one (ps_ret (pe_tup (pa_cons pe_str (pa_cons (pe_fld (pv 2) rfl) pa_nil))))))) (pss_nil))
      (pss_cons (ps_if (pt_not (pt_val (pe_meth (pv 0) cl_M m_M_exchange G_M_exchange (hr.mono (by decide)) b_M_exchange .nil pass0 (pa_cons (pv 1) (pa_cons (pe_fld (pv 2) rfl) pa_nil))))) (pss_one (ps_ret (pe_tup (pa_cons pe_str pa_nil)))) (pss_nil))
      (pss_one (ps_ret (pe_meth (pv 0) cl_M m_M_ended G_M_ended (hr.mono (by decide)) b_M_ended .nil pass0 (pa_cons (pv 1) (pa_cons pe_str pa_nil)))))))
theorem ok_M_guard (X : K.In h) (G : h.Ns mainGlobals mg) (c : He.SaysD fa fn K) : OkF P w K mg d_M_guard 2 ["self", "hand", "cell"] (sp_M_guard (ZZ K)) := by
  obtain ⟨fd, F0⟩ := c.def_ 27 (d := d_M_guard) rfl
  have F : FunD K "guard" "Machine.guard" (defArgs s_M_guard) (defBody s_M_guard) (defScope s_M_guard) [] [] (He.fAd K ("Machine", some "guard")) fd := F0
  obtain ⟨fd_M_forget, GA_M_forget, b_M_forget, k_M_forget, _⟩ := ok_M_forget (P := P) (w := w) X G c
  have m_M_forget : Meth K (He.ga K "Machine") "forget" (He.ma K (He.ga K "Machine") "forget") := He.meth_ok (c.fact 53 (f := .meth "Machine" "forget") rfl)
  have cl_M : Cls K (He.ga K "Machine") := He.cls_ok (c.fact 0 (f := .cls "Machine") rfl)
  refine ⟨fd, fun base => ?_, F.bindsN (fun _ _ _ _ _ _ us hl => match us, hl with | [_, _, _], _ => rfl), F0.kp, F0⟩
  have G_M_forget := GA_M_forget base
  refine F.ok sc_M_guard (fun vs H Q E h => len_M_guard h) (fun cdv A outer s H vs Q E hr h => ⟨t_M_guard (ZZ K), PSs.nox ?_, pure_M_guard (zok c) vs H Q E h⟩)
  exact pss_cons (ps_set (i := 3) sc_M_guard.nd rfl (Or.inl rfl) (pe_ix ix_list (pe_fld (pv 0) rfl) (pv 1) (fun _ _ => rfl)))
      (pss_cons (ps_if (pt_cmpR op_ne (pe_fld (pv 3) rfl) (pv 2) (nomark _)) (pss_cons (ps_fld (pv 3) (pv 2) rfl)
      (pss_one (ps_ret (pe_tup (pa_cons pe_str (pa_cons (pv 2) pa_nil)))))) (pss_nil))
      (pss_cons (ps_if (pt_cmpR op_ne (pe_fld (pv 0) rfl) (pv 2) (nomark _)) (pss_cons (ps_expr (pe_meth (pv 0) cl_M m_M_forget G_M_forget (hr.mono (by decide)) b_M_forget .nil pass0 (pa_cons (pv 1) pa_nil)))
      (pss_one (ps_ret (pe_tup (pa_cons pe_str (pa_cons pe_bl pa_nil)))))) (pss_nil))
      (pss_cons (ps_fld (pv 3) pe_bl rfl)
      (pss_one (ps_ret (pe_tup (pa_cons pe_str (pa_cons pe_bl pa_nil))))))))
theorem ok_M_pop (X : K.In h) (G : h.Ns mainGlobals mg) (c : He.SaysD fa fn K) : OkF P w K mg d_M_pop 3 ["self", "hand"] (sp_M_pop (ZZ K)) := by
  obtain ⟨fd, F0⟩ := c.def_ 28 (d := d_M_pop) rfl
  have F : FunD K "pop" "Machine.pop" (defArgs s_M_pop) (defBody s_M_pop) (defScope s_M_pop) [] [] (He.fAd K ("Machine", some "pop")) fd := F0
  obtain ⟨fd_M_ended, GA_M_ended, b_M_ended, k_M_ended, _⟩ := ok_M_ended (P := P) (w := w) X G c
  have m_M_ended : Meth K (He.ga K "Machine") "ended" (He.ma K (He.ga K "Machine") "ended") := He.meth_ok (c.fact 54 (f := .meth "Machine" "ended") rfl)
  obtain ⟨fd_M_guard, GA_M_guard, b_M_guard, k_M_guard, _⟩ := ok_M_guard (P := P) (w := w) X G c
  have m_M_guard : Meth K (He.ga K "Machine") "guard" (He.ma K (He.ga K "Machine") "guard") := He.meth_ok (c.fact 58 (f := .meth "Machine" "guard") rfl)
  obtain ⟨fd_M_exchange, GA_M_exchange, b_M_exchange, k_M_exchange, _⟩ := ok_M_exchange (P := P) (w := w) X G c
  have m_M_exchange : Meth K (He.ga K "Machine") "exchange" (He.ma K (He.ga K "Machine") "exchange") := He.meth_ok (c.fact 56 (f := .meth "Machine" "exchange") rfl)
  have cl_M : Cls K (He.ga K "Machine") := He.cls_ok (c.fact 0 (f := .cls "Machine") rfl)
  refine ⟨fd, fun base => ?_, F.bindsN (fun _ _ _ _ _ _ us hl => match us, hl with | [_, _], _ => rfl), F0.kp, F0⟩
  have G_M_ended := GA_M_ended base
  have G_M_guard := GA_M_guard base
  have G_M_exchange := GA_M_exchange base
  refine F.ok sc_M_pop (fun vs H Q E h => len_M_pop h) (fun cdv A outer s H vs Q E hr h => ⟨t_M_pop (ZZ K), PSs.nox ?_, pure_M_pop (zok c) vs H Q E h⟩)
  exact pss_cons (ps_set (i := 2) sc_M_pop.nd rfl (Or.inl rfl) (pe_ix ix_list (pe_fld (pv 0) rfl) (pv 1) (fun _ _ => rfl)))
      (pss_cons (ps_if (pt_cmpR op_ne (pe_fld (pv 2) rfl) pe_int (nomark _)) (pss_cons (ps_expr (pe_bm PySem.F.plainAttrs_list PySem.F.slot_list_append PySem.F.type_list_append mt_append (pe_fld (pv 0) rfl) (pa_cons (pe_fld (pv 2) rfl) pa_nil)))
      (pss_one (ps_ret (pe_meth (pv 0) cl_M m_M_ended G_M_ended (hr.mono (by decide)) b_M_ended .nil pass0 (pa_cons (pv 1) (pa_cons (pe_ix ix_list (pe_fld (pv 0) rfl) (pe_op op_sub (pe_fld (pv 2) rfl) pe_int) (fun _ _ => rfl)) pa_nil)))))) (pss_nil))
      (pss_cons (ps_set (i := 3) sc_M_pop.nd rfl (Or.inl rfl) (pe_ix ix_tup (pe_fld (pv 2) rfl) pe_int (fun _ _ => rfl)))
      (pss_cons (ps_if (PW.pt (pw_and (pt_cmpR op_eq (pe_ix ix_tup (pe_fld (pv 0) rfl) pe_int (fun _ _ => rfl)) pe_str (nomark _)) (pw_and (pt_cmpR op_in_seq (pv 1) (pe_ix ix_tup (pe_fld (pv 0) rfl) pe_int (fun _ _ => rfl)) (by rfl)) (pw_and1 (pt_not (pt_val (pe_fld (pv 2) rfl))))))) (pss_one (ps_ret (pe_meth (pv 0) cl_M m_M_guard G_M_guard (hr.mono (by decide)) b_M_guard .nil pass0 (pa_cons (pv 1) (pa_cons (pv 3) pa_nil))))) (pss_nil))
      (pss_cons (ps_if (pt_cmpR op_isN (pe_fld (pv 2) rfl) pe_non (nomark _)) (pss_cons (ps_fld (pv 2) (pe_ix ix_list (pe_fld (pv 0) rfl) (pe_op op_sub (pv 3) pe_int) (fun _ _ => rfl)) rfl)
      (pss_one (ps_ret (pe_tup (pa_cons pe_str (pa_cons (pe_fld (pv 2) rfl) pa_nil)))))) (pss_nil))
      (pss_cons (ps_set (i := 4) sc_M_pop.nd rfl (Or.inl rfl) (pe_fld (pv 2) rfl))
      (pss_cons (ps_if (pt_not (pt_val (pe_meth (pv 0) cl_M m_M_exchange G_M_exchange (hr.mono (by decide)) b_M_exchange .nil pass0 (pa_cons (pv 1) (pa_cons (pv 4) pa_nil))))) (pss_one (ps_ret (pe_tup (pa_cons pe_str pa_nil)))) (pss_nil))
      (pss_cons (ps_fld (pv 0) (pe_or (pe_fld (pv 0) rfl) (pe_one (pe_cmpR (op_neD hr.units) (pe_ix ix_list (pe_fld (pv 0) rfl) (pe_op op_sub (pv 3) pe_int) (fun _ _ => rfl)) (pv 4) (nomark _)))) rfl)
      (pss_cons (ps_fld (pv 2) (pv 3) rfl)
      (pss_one (ps_ret (pe_tup (pa_cons pe_str (pa_cons (pv 4) pa_nil)))))))))))))
theorem ok_M_turn (X : K.In h) (G : h.Ns mainGlobals mg) (c : He.SaysD fa fn K) : OkF P w K mg d_M_turn 4 ["self", "hand"] (sp_M_turn (ZZ K)) := by
  obtain ⟨fd, F0⟩ := c.def_ 29 (d := d_M_turn) rfl
  have F : FunD K "turn" "Machine.turn" (defArgs s_M_turn) (defBody s_M_turn) (defScope s_M_turn) [] [] (He.fAd K ("Machine", some "turn")) fd := F0
  obtain ⟨fd_M_need_hand, GA_M_need_hand, b_M_need_hand, k_M_need_hand, _⟩ := ok_M_need_hand (P := P) (w := w) X G c
  have m_M_need_hand : Meth K (He.ga K "Machine") "need_hand" (He.ma K (He.ga K "Machine") "need_hand") := He.meth_ok (c.fact 50 (f := .meth "Machine" "need_hand") rfl)
  obtain ⟨fd_M_rests, GA_M_rests, b_M_rests, k_M_rests, _⟩ := ok_M_rests (P := P) (w := w) X G c
  have m_M_rests : Meth K (He.ga K "Machine") "rests" (He.ma K (He.ga K "Machine") "rests") := He.meth_ok (c.fact 47 (f := .meth "Machine" "rests") rfl)
  obtain ⟨fd_M_taken, GA_M_taken, b_M_taken, k_M_taken, _⟩ := ok_M_taken (P := P) (w := w) X G c
  have m_M_taken : Meth K (He.ga K "Machine") "taken" (He.ma K (He.ga K "Machine") "taken") := He.meth_ok (c.fact 52 (f := .meth "Machine" "taken") rfl)
  obtain ⟨fd_M_read, GA_M_read, b_M_read, k_M_read, _⟩ := ok_M_read (P := P) (w := w) X G c
  have m_M_read : Meth K (He.ga K "Machine") "read" (He.ma K (He.ga K "Machine") "read") := He.meth_ok (c.fact 55 (f := .meth "Machine" "read") rfl)
  obtain ⟨fd_M_push, GA_M_push, b_M_push, k_M_push, _⟩ := ok_M_push (P := P) (w := w) X G c
  have m_M_push : Meth K (He.ga K "Machine") "push" (He.ma K (He.ga K "Machine") "push") := He.meth_ok (c.fact 57 (f := .meth "Machine" "push") rfl)
  obtain ⟨fd_M_pop, GA_M_pop, b_M_pop, k_M_pop, _⟩ := ok_M_pop (P := P) (w := w) X G c
  have m_M_pop : Meth K (He.ga K "Machine") "pop" (He.ma K (He.ga K "Machine") "pop") := He.meth_ok (c.fact 59 (f := .meth "Machine" "pop") rfl)
  have cl_M : Cls K (He.ga K "Machine") := He.cls_ok (c.fact 0 (f := .cls "Machine") rfl)
  refine ⟨fd, fun base => ?_, F.bindsN (fun _ _ _ _ _ _ us hl => match us, hl with | [_, _], _ => rfl), F0.kp, F0⟩
  have G_M_need_hand := GA_M_need_hand base
  have G_M_rests := GA_M_rests base
  have G_M_taken := GA_M_taken base
  have G_M_read := GA_M_read base
  have G_M_push := GA_M_push base
  have G_M_pop := GA_M_pop base
  refine F.ok sc_M_turn (fun vs H Q E h => len_M_turn h) (fun cdv A outer s H vs Q E hr h => ⟨t_M_turn (ZZ K), PSs.nox ?_, pure_M_turn (zok c) vs H Q E h⟩)
  exact pss_cons (ps_set (i := 2) sc_M_turn.nd rfl (Or.inl rfl) (pe_meth (pv 0) cl_M m_M_need_hand G_M_need_hand (hr.mono (by decide)) b_M_need_hand .nil pass0 (pa_cons (pv 1) pa_nil)))
      (pss_cons (ps_if (pt_val (pe_meth (pv 0) cl_M m_M_rests G_M_rests (hr.mono (by decide)) b_M_rests .nil pass0 (pa_cons (pv 1) pa_nil))) (pss_one (ps_ret (pe_tup (pa_cons pe_str pa_nil)))) (pss_nil))
      (pss_cons (ps_set (i := 3) sc_M_turn.nd rfl (Or.inl rfl) (pe_ix ix_list (pe_fld (pv 2) rfl) (pe_fld (pv 2) rfl) (fun _ _ => rfl)))
      (pss_cons (ps_if (PW.pt (pw_and (pt_cmpR op_eq (pe_ix ix_tup (pv 3) pe_int (fun _ _ => rfl)) pe_str (nomark _)) (pw_and1 (pt_cmpR op_eq (pe_fld (pv 2) rfl) pe_int (nomark _))))) (pss_cons (ps_fld (pv 2) (pe_meth (pv 0) cl_M m_M_taken G_M_taken (hr.mono (by decide)) b_M_taken .nil pass0 (pa_cons (pe_ix ix_tup (pv 3) pe_int (fun _ _ => rfl)) pa_nil)) rfl)
      (pss_one (ps_ret (pe_tup (pa_cons pe_str (pa_cons (pe_fld (pv 2) rfl) pa_nil)))))) (pss_nil))
      (pss_cons (ps_if (pt_cmpR op_isN (pe_fld (pv 2) rfl) pe_non (nomark _)) (pss_one (ps_ret (pe_meth (pv 0) cl_M m_M_read G_M_read (hr.mono (by decide)) b_M_read .nil pass0 (pa_cons (pv 1) pa_nil)))) (pss_nil))
      (pss_cons (ps_if (pt_cmpR op_eq (pe_ix ix_tup (pv 3) pe_int (fun _ _ => rfl)) pe_str (nomark _)) (pss_one (ps_ret (pe_meth (pv 0) cl_M m_M_push G_M_push (hr.mono (by decide)) b_M_push .nil pass0 (pa_cons (pv 1) pa_nil)))) (pss_nil))
      (pss_one (ps_ret (pe_meth (pv 0) cl_M m_M_pop G_M_pop (hr.mono (by decide)) b_M_pop .nil pass0 (pa_cons (pv 1) pa_nil)))))))))
theorem ok_M_is_stale (X : K.In h) (G : h.Ns mainGlobals mg) (c : He.SaysD fa fn K) : OkF P w K mg d_M_is_stale 1 ["self"] (sp_M_is_stale (ZZ K)) := by
  obtain ⟨fd, F0⟩ := c.def_ 30 (d := d_M_is_stale) rfl
  have F : FunD K "is_stale" "Machine.is_stale" (defArgs s_M_is_stale) (defBody s_M_is_stale) (defScope s_M_is_stale) [] [] (He.fAd K ("Machine", some "is_stale")) fd := F0
  refine ⟨fd, fun base => ?_, F.bindsN (fun _ _ _ _ _ _ us hl => match us, hl with | [_], _ => rfl), F0.kp, F0⟩
  refine F.ok sc_M_is_stale (fun vs H Q E h => len_M_is_stale h) (fun cdv A outer s H vs Q E hr h => ⟨t_M_is_stale (ZZ K), PSs.nox ?_, pure_M_is_stale (zok c) vs H Q E h⟩)
  exact pss_one (ps_ret (pe_fld (pv 0) rfl))
theorem ok_stale (X : K.In h) (G : h.Ns mainGlobals mg) (c : He.SaysD fa fn K) : OkF P w K mg d_stale 7 ["values", "programs", "rule"] (sp_stale (ZZ K)) := by
  obtain ⟨fd, F0⟩ := c.def_ 31 (d := d_stale) rfl
  have F : FunD K "stale" "stale" (defArgs s_stale) (defBody s_stale) (defScope s_stale) [] [] (He.fAd K ("stale", none)) fd := F0
  obtain ⟨fd_M_init, GA_M_init, b_M_init, k_M_init, _⟩ := ok_M_init (P := P) (w := w) X G c
  obtain ⟨fd_M_state, GA_M_state, b_M_state, k_M_state, _⟩ := ok_M_state (P := P) (w := w) X G c
  have m_M_state : Meth K (He.ga K "Machine") "state" (He.ma K (He.ga K "Machine") "state") := He.meth_ok (c.fact 46 (f := .meth "Machine" "state") rfl)
  obtain ⟨fd_M_rests, GA_M_rests, b_M_rests, k_M_rests, _⟩ := ok_M_rests (P := P) (w := w) X G c
  have m_M_rests : Meth K (He.ga K "Machine") "rests" (He.ma K (He.ga K "Machine") "rests") := He.meth_ok (c.fact 47 (f := .meth "Machine" "rests") rfl)
  obtain ⟨fd_M_twin, GA_M_twin, b_M_twin, k_M_twin, _⟩ := ok_M_twin (P := P) (w := w) X G c
  have m_M_twin : Meth K (He.ga K "Machine") "twin" (He.ma K (He.ga K "Machine") "twin") := He.meth_ok (c.fact 49 (f := .meth "Machine" "twin") rfl)
  obtain ⟨fd_M_turn, GA_M_turn, b_M_turn, k_M_turn, _⟩ := ok_M_turn (P := P) (w := w) X G c
  have m_M_turn : Meth K (He.ga K "Machine") "turn" (He.ma K (He.ga K "Machine") "turn") := He.meth_ok (c.fact 60 (f := .meth "Machine" "turn") rfl)
  obtain ⟨fd_M_is_stale, GA_M_is_stale, b_M_is_stale, k_M_is_stale, _⟩ := ok_M_is_stale (P := P) (w := w) X G c
  have m_M_is_stale : Meth K (He.ga K "Machine") "is_stale" (He.ma K (He.ga K "Machine") "is_stale") := He.meth_ok (c.fact 61 (f := .meth "Machine" "is_stale") rfl)
  have f_len : mg "len" = none := He.free_ok X G (c.fact 24 (f := .free "len") rfl)
  have f_range : mg "range" = none := He.free_ok X G (c.fact 28 (f := .free "range") rfl)
  have f_list : mg "list" = none := He.free_ok X G (c.fact 44 (f := .free "list") rfl)
  have cl_M : Cls K (He.ga K "Machine") := He.cls_ok (c.fact 0 (f := .cls "Machine") rfl)
  have mk_M : Mk K (He.ga K "Machine") (He.ma K (He.ga K "Machine") "__init__") := He.mkr_ok (c.fact 2 (f := .mkr "Machine") rfl)
  have g_Machine : mg "Machine" = some (.ref (He.ga K "Machine")) := He.glo_ok X G (c.fact 21 (f := .glo "Machine") rfl)
  refine ⟨fd, fun base => ?_, F.bindsN (fun _ _ _ _ _ _ us hl => match us, hl with | [_, _, _], _ => rfl), F0.kp, F0⟩
  have G_M_init := GA_M_init base
  have G_M_state := GA_M_state base
  have G_M_rests := GA_M_rests base
  have G_M_twin := GA_M_twin base
  have G_M_turn := GA_M_turn base
  have G_M_is_stale := GA_M_is_stale base
  refine F.ok sc_stale (fun vs H Q E h => len_stale h) (fun cdv A outer s H vs Q E hr h => ⟨t_stale (ZZ K) P w, PSs.nox ?_, pure_stale (zok c) vs H Q E h⟩)
  exact pss_cons (ps_set (i := 3) sc_stale.nd rfl (Or.inl rfl) (pe_make mk_M G_M_init (hr.mono (by decide)) rfl g_Machine b_M_init .nil pass0 (pa_cons (pv 0) (pa_cons (pv 1) (pa_cons (pv 2) pa_nil)))))
      (pss_cons (ps_set (i := 4) sc_stale.nd rfl (Or.inl rfl) (pe_nd1 hr.u65 (pps_cons (pe_meth0 (pv 3) cl_M m_M_state G_M_state (hr.mono (by decide)) b_M_state .nil pass0) pe_bl pps_nil)))
      (pss_cons (ps_set (i := 5) sc_stale.nd rfl (Or.inl rfl) (pe_lst (pa_cons (pe_tup (pa_cons (pe_tup pa_nil) (pa_cons (pv 3) pa_nil))) pa_nil)))
      (pss_cons (ps_while PassesOwn.never (pt_cmpR (op_neE hr.units) (pv 5) (pe_lst pa_nil) (nomark _)) (pss_cons (ps_set (i := 6) sc_stale.nd rfl (Or.inl rfl) (pe_lst pa_nil))
      (pss_cons (ps_for PassesOwn.never rfl (pi_list (pv 5)) (pg_tup rfl (pgs_cons (pg_name (i := 7) sc_stale.nd rfl (Or.inl rfl)) (pgs_cons (pg_name (i := 8) sc_stale.nd rfl (Or.inl rfl)) pgs_nil))) (pss_one (ps_for PassesOwn.never rfl (pi_range1 rfl f_range (pa_cons (pe_callB call_len_seq rfl f_len PySem.boot_len (pa_cons (pv 1) pa_nil)) pa_nil)) (pg_name (i := 9) sc_stale.nd rfl (Or.inl rfl)) (pss_one (ps_if (pt_not (pt_val (pe_meth (pv 8) cl_M m_M_rests G_M_rests (hr.mono (by decide)) b_M_rests .nil pass0 (pa_cons (pv 9) pa_nil)))) (pss_cons (ps_set (i := 10) sc_stale.nd rfl (Or.inl rfl) (pe_meth0 (pv 8) cl_M m_M_twin G_M_twin (hr.mono (by decide)) b_M_twin .nil pass0))
      (pss_cons (ps_expr (pe_meth (pv 10) cl_M m_M_turn G_M_turn (hr.mono (by decide)) b_M_turn .nil pass0 (pa_cons (pv 9) pa_nil)))
      (pss_cons (ps_if (pt_val (pe_meth0 (pv 10) cl_M m_M_is_stale G_M_is_stale (hr.mono (by decide)) b_M_is_stale .nil pass0)) (pss_one (ps_ret (pe_op op_cat (pe_callTy call_list_of rfl f_list (by decide +kernel) (pa_cons (pv 7) pa_nil)) (pe_lst (pa_cons (pv 9) pa_nil))))) (pss_nil))
      (pss_one (ps_if (pt_cmpR (op_notInN hr.u65) (pe_meth0 (pv 10) cl_M m_M_state G_M_state (hr.mono (by decide)) b_M_state .nil pass0) (pv 4) (by rfl)) (pss_cons (ps_nput hr.u65 (pv 4) (pe_meth0 (pv 10) cl_M m_M_state G_M_state (hr.mono (by decide)) b_M_state .nil pass0) pe_bl rfl)
      (pss_one (ps_expr (pe_bm PySem.F.plainAttrs_list PySem.F.slot_list_append PySem.F.type_list_append mt_append (pv 6) (pa_cons (pe_tup (pa_cons (pe_op op_catA (pv 7) (pe_tup (pa_cons (pv 9) pa_nil))) (pa_cons (pv 10) pa_nil))) pa_nil))))) (pss_nil)))))) (pss_nil))))))
      (pss_one (ps_set (i := 5) sc_stale.nd rfl (Or.inl rfl) (pv 6))))))
      (pss_one (ps_ret pe_non)))))
theorem ok_played (X : K.In h) (G : h.Ns mainGlobals mg) (c : He.SaysD fa fn K) : OkF P w K mg d_played 6 ["values", "programs", "rule", "weaving"] (sp_played (ZZ K)) := by
  obtain ⟨fd, F0⟩ := c.def_ 32 (d := d_played) rfl
  have F : FunD K "played" "played" (defArgs s_played) (defBody s_played) (defScope s_played) [] [] (He.fAd K ("played", none)) fd := F0
  obtain ⟨fd_M_init, GA_M_init, b_M_init, k_M_init, _⟩ := ok_M_init (P := P) (w := w) X G c
  obtain ⟨fd_M_turn, GA_M_turn, b_M_turn, k_M_turn, _⟩ := ok_M_turn (P := P) (w := w) X G c
  have m_M_turn : Meth K (He.ga K "Machine") "turn" (He.ma K (He.ga K "Machine") "turn") := He.meth_ok (c.fact 60 (f := .meth "Machine" "turn") rfl)
  have cl_M : Cls K (He.ga K "Machine") := He.cls_ok (c.fact 0 (f := .cls "Machine") rfl)
  have mk_M : Mk K (He.ga K "Machine") (He.ma K (He.ga K "Machine") "__init__") := He.mkr_ok (c.fact 2 (f := .mkr "Machine") rfl)
  have g_Machine : mg "Machine" = some (.ref (He.ga K "Machine")) := He.glo_ok X G (c.fact 21 (f := .glo "Machine") rfl)
  refine ⟨fd, fun base => ?_, F.bindsN (fun _ _ _ _ _ _ us hl => match us, hl with | [_, _, _, _], _ => rfl), F0.kp, F0⟩
  have G_M_init := GA_M_init base
  have G_M_turn := GA_M_turn base
  refine F.ok sc_played (fun vs H Q E h => len_played h) (fun cdv A outer s H vs Q E hr h => ⟨t_played (ZZ K), PSs.nox ?_, pure_played (zok c) vs H Q E h⟩)
  exact pss_cons (ps_set (i := 4) sc_played.nd rfl (Or.inr rfl) (pe_make mk_M G_M_init (hr.mono (by decide)) rfl g_Machine b_M_init .nil pass0 (pa_cons (pv 0) (pa_cons (pv 1) (pa_cons (pv 2) pa_nil)))))
      (pss_one (ps_ret (pe_lc (own := [("hand", 5)]) rfl sc_played.nd (pi_list (pv 3)) (blkOk_by (own := [("hand", 5)]) (N := ["values", "programs", "rule", "weaving", "machine", "hand"]) (sc := defScope s_played) (by decide +kernel)) (fun _ _ _ _ _ => (pg_name (i := 5) sc_played.nd rfl (Or.inl rfl))) (fun _ _ _ _ _ => pts_nil) (fun _ _ _ _ _ => (pe_meth (pv 4) cl_M m_M_turn G_M_turn (hr.mono (by decide)) b_M_turn .nil pass0 (pa_cons (pv 5) pa_nil))))))
theorem ok_L_weaving (X : K.In h) (G : h.Ns mainGlobals mg) (c : He.SaysD fa fn K) : OkF P w K mg d_L_weaving 2 ["_law_d", "_law_many", "_law_most"] (sp_L_weaving (ZZ K)) := by
  obtain ⟨fd, F0⟩ := c.def_ 33 (d := d_L_weaving) rfl
  have F : FunD K "_law_weaving" "_law_weaving" (defArgs s_L_weaving) (defBody s_L_weaving) (defScope s_L_weaving) [] [] (He.fAd K ("_law_weaving", none)) fd := F0
  obtain ⟨fd_L_next, GA_L_next, b_L_next, k_L_next, _⟩ := ok_L_next (P := P) (w := w) X G c
  have g_L_next : mg "_law_next" = some (.ref (He.ga K "_law_next")) := He.glo_ok X G (c.fact 26 (f := .glo "_law_next") rfl)
  have f_range : mg "range" = none := He.free_ok X G (c.fact 28 (f := .free "range") rfl)
  refine ⟨fd, fun base => ?_, F.bindsN (fun _ _ _ _ _ _ us hl => match us, hl with | [_, _, _], _ => rfl), F0.kp, F0⟩
  have G_L_next := GA_L_next base
  refine F.ok sc_L_weaving (fun vs H Q E h => len_L_weaving h) (fun cdv A outer s H vs Q E hr h => ⟨t_L_weaving (ZZ K), PSs.nox ?_, pure_L_weaving vs H Q E h⟩)
  exact pss_cons (ps_set (i := 3) sc_L_weaving.nd rfl (Or.inl rfl) (pe_lst pa_nil))
      (pss_cons (ps_for PassesOwn.never rfl (pi_range1 rfl f_range (pa_cons (pe_call G_L_next (hr.mono (by decide)) rfl g_L_next k_L_next b_L_next .nil pass0 (pa_cons (pv 0) (pa_cons (pv 2) pa_nil))) pa_nil)) (pg_name (i := 4) sc_L_weaving.nd rfl (Or.inl rfl)) (pss_one (ps_set (i := 3) sc_L_weaving.nd rfl (Or.inl rfl) (pe_op op_cat (pv 3) (pe_op op_rep (pe_lst (pa_cons (pe_call G_L_next (hr.mono (by decide)) rfl g_L_next k_L_next b_L_next .nil pass0 (pa_cons (pv 0) (pa_cons (pv 1) pa_nil))) pa_nil)) (pe_op op_add pe_int (pe_call G_L_next (hr.mono (by decide)) rfl g_L_next k_L_next b_L_next .nil pass0 (pa_cons (pv 0) (pa_cons pe_int pa_nil)))))))))
      (pss_one (ps_ret (pv 3))))
theorem ok_law (X : K.In h) (G : h.Ns mainGlobals mg) (c : He.SaysD fa fn K) : OkF P w K mg d_law 8 ["_law_script"] (sp_law (ZZ K)) := by
  obtain ⟨fd, F0⟩ := c.def_ 34 (d := d_law) rfl
  have F : FunD K "law" "law" (defArgs s_law) (defBody s_law) (defScope s_law) [] [] (He.fAd K ("law", none)) fd := F0
  obtain ⟨fd_L_dice, GA_L_dice, b_L_dice, k_L_dice, _⟩ := ok_L_dice (P := P) (w := w) X G c
  have g_L_dice : mg "_law_dice" = some (.ref (He.ga K "_law_dice")) := He.glo_ok X G (c.fact 23 (f := .glo "_law_dice") rfl)
  obtain ⟨fd_L_small_case, GA_L_small_case, b_L_small_case, k_L_small_case, _⟩ := ok_L_small_case (P := P) (w := w) X G c
  have g_L_small_case : mg "_law_small_case" = some (.ref (He.ga K "_law_small_case")) := He.glo_ok X G (c.fact 33 (f := .glo "_law_small_case") rfl)
  obtain ⟨fd_L_next, GA_L_next, b_L_next, k_L_next, _⟩ := ok_L_next (P := P) (w := w) X G c
  have g_L_next : mg "_law_next" = some (.ref (He.ga K "_law_next")) := He.glo_ok X G (c.fact 26 (f := .glo "_law_next") rfl)
  obtain ⟨fd_stale, GA_stale, b_stale, k_stale, _⟩ := ok_stale (P := P) (w := w) X G c
  have g_stale : mg "stale" = some (.ref (He.ga K "stale")) := He.glo_ok X G (c.fact 62 (f := .glo "stale") rfl)
  obtain ⟨fd_played, GA_played, b_played, k_played, _⟩ := ok_played (P := P) (w := w) X G c
  have g_played : mg "played" = some (.ref (He.ga K "played")) := He.glo_ok X G (c.fact 63 (f := .glo "played") rfl)
  obtain ⟨fd_L_weaving, GA_L_weaving, b_L_weaving, k_L_weaving, _⟩ := ok_L_weaving (P := P) (w := w) X G c
  have g_L_weaving : mg "_law_weaving" = some (.ref (He.ga K "_law_weaving")) := He.glo_ok X G (c.fact 64 (f := .glo "_law_weaving") rfl)
  have f_len : mg "len" = none := He.free_ok X G (c.fact 24 (f := .free "len") rfl)
  have f_max : mg "max" = none := He.free_ok X G (c.fact 66 (f := .free "max") rfl)
  have f_range : mg "range" = none := He.free_ok X G (c.fact 28 (f := .free "range") rfl)
  refine ⟨fd, fun base => ?_, F.bindsN (fun _ _ _ _ _ _ us hl => match us, hl with | [_], _ => rfl), F0.kp, F0⟩
  have G_L_dice := GA_L_dice base
  have G_L_small_case := GA_L_small_case base
  have G_L_next := GA_L_next base
  have G_stale := GA_stale base
  have G_played := GA_played base
  have G_L_weaving := GA_L_weaving base
  refine F.ok sc_law (fun vs H Q E h => len_law h) (fun cdv A outer s H vs Q E hr h => ⟨t_law (ZZ K), PSs.nox ?_, pure_law (zok c) vs H Q E h⟩)
  exact pss_cons (ps_set (i := 1) sc_law.nd rfl (Or.inr rfl) (pe_call G_L_dice (hr.mono (by decide)) rfl g_L_dice k_L_dice b_L_dice .nil pass0 (pa_cons (pv 0) pa_nil)))
      (pss_cons (ps_asg (pe_call G_L_small_case (hr.mono (by decide)) rfl g_L_small_case k_L_small_case b_L_small_case .nil pass0 (pa_cons (pv 1) pa_nil)) (pg_tup rfl (pgs_cons (pg_name (i := 2) sc_law.nd rfl (Or.inl rfl)) (pgs_cons (pg_name (i := 3) sc_law.nd rfl (Or.inl rfl)) (pgs_cons (pg_name (i := 4) sc_law.nd rfl (Or.inl rfl)) pgs_nil)))))
      (pss_cons (ps_setLc (i := 5) (own := [("_law_row", 6)]) rfl sc_law.nd rfl rfl (sw_true rfl rfl rfl (by decide +kernel)) (pi_list (pv 3)) (blkOk_by (own := [("_law_row", 6)]) (N := ["_law_script", "_law_d", "_law_values_here", "_law_programs", "_law_rule_here", "_law_fewer", "_law_row", "_law_one", "_law_two", "_law_weaving_here", "_law_short", "_law_long", "_law_k", "_law_alone"]) (sc := defScope s_law) (by decide +kernel)) (fun _ _ _ _ _ => (pg_name (i := 6) sc_law.nd rfl (Or.inl rfl))) (fun _ _ _ _ _ => pts_nil) (fun _ _ _ _ _ => (pe_slice sl_list (pv 6) po_none (po_some (pe_callB (call_max2 rfl) rfl f_max (by decide +kernel) (pa_cons pe_int (pa_cons (pe_op op_sub (pe_callB call_len_seq rfl f_len PySem.boot_len (pa_cons (pv 6) pa_nil)) (pe_call G_L_next (hr.mono (by decide)) rfl g_L_next k_L_next b_L_next .nil pass0 (pa_cons (pv 1) (pa_cons pe_int pa_nil)))) pa_nil)))))))
      (pss_cons (ps_par (i := 7) (j := 8) rfl sc_law.nd rfl rfl (by decide) rfl rfl (pa_cons (pe_call G_stale (hr.mono (by decide)) rfl g_stale k_stale b_stale .nil pass0 (pa_cons (pv 2) (pa_cons (pv 3) (pa_cons (pv 4) pa_nil)))) (pa_cons (pe_call G_stale (hr.mono (by decide)) rfl g_stale k_stale b_stale .nil pass0 (pa_cons (pv 2) (pa_cons (pv 5) (pa_cons (pv 4) pa_nil)))) pa_nil)) rfl)
      (pss_cons (ps_if (pt_cmpR op_notN (pv 8) pe_non (nomark _)) (pss_cons (ps_if (PW.pt (pw_or (pt_cmpR op_isN (pv 7) pe_non (nomark _)) (pw_or1 (pt_cmpR op_gt (pe_callB call_len_seq rfl f_len PySem.boot_len (pa_cons (pv 7) pa_nil)) (pe_callB call_len_seq rfl f_len PySem.boot_len (pa_cons (pv 8) pa_nil)) (nomark _))))) (pss_one (ps_ret pe_bl)) (pss_nil))
      (pss_one (ps_if (pt_cmpR (op_neD hr.units) (pe_call G_played (hr.mono (by decide)) rfl g_played k_played b_played .nil pass0 (pa_cons (pv 2) (pa_cons (pv 3) (pa_cons (pv 4) (pa_cons (pv 8) pa_nil))))) (pe_call G_played (hr.mono (by decide)) rfl g_played k_played b_played .nil pass0 (pa_cons (pv 2) (pa_cons (pv 5) (pa_cons (pv 4) (pa_cons (pv 8) pa_nil))))) (nomark _)) (pss_one (ps_ret pe_bl)) (pss_nil)))) (pss_nil))
      (pss_cons (ps_set (i := 9) sc_law.nd rfl (Or.inl rfl) (pe_call G_L_weaving (hr.mono (by decide)) rfl g_L_weaving k_L_weaving b_L_weaving .nil pass0 (pa_cons (pv 1) (pa_cons (pe_callB call_len_seq rfl f_len PySem.boot_len (pa_cons (pv 3) pa_nil)) (pa_cons pe_int pa_nil)))))
      (pss_cons (ps_par (i := 10) (j := 11) rfl sc_law.nd rfl rfl (by decide) rfl rfl (pa_cons (pe_call G_played (hr.mono (by decide)) rfl g_played k_played b_played .nil pass0 (pa_cons (pv 2) (pa_cons (pv 5) (pa_cons (pv 4) (pa_cons (pv 9) pa_nil))))) (pa_cons (pe_call G_played (hr.mono (by decide)) rfl g_played k_played b_played .nil pass0 (pa_cons (pv 2) (pa_cons (pv 3) (pa_cons (pv 4) (pa_cons (pv 9) pa_nil))))) pa_nil)) rfl)
      (pss_cons (ps_for PassesOwn.never rfl (pi_range1 rfl f_range (pa_cons (pe_callB call_len_seq rfl f_len PySem.boot_len (pa_cons (pv 9) pa_nil)) pa_nil)) (pg_name (i := 12) sc_law.nd rfl (Or.inl rfl)) (pss_one (ps_if (PW.pt (pw_and (pt_cmpR (op_notInD hr.u65) (pe_tup (pa_cons pe_str pa_nil)) (pe_slice sl_list (pv 10) po_none (po_some (pe_op op_add (pv 12) pe_int))) (by rfl)) (pw_and1 (pt_cmpR (op_neD hr.units) (pe_ix ix_list (pv 10) (pv 12) (fun _ _ => rfl)) (pe_ix ix_list (pv 11) (pv 12) (fun _ _ => rfl)) (nomark _))))) (pss_one (ps_ret pe_bl)) (pss_nil))))
      (pss_cons (ps_set (i := 13) sc_law.nd rfl (Or.inl rfl) (pe_op op_cat (pe_lst (pa_cons (pe_ix ix_list (pv 3) pe_int (fun _ _ => rfl)) pa_nil)) (pe_lc (own := [("_law_row", 6)]) rfl sc_law.nd (pi_list (pe_slice sl_list (pv 3) (po_some pe_int) po_none)) (blkOk_by (own := [("_law_row", 6)]) (N := ["_law_script", "_law_d", "_law_values_here", "_law_programs", "_law_rule_here", "_law_fewer", "_law_row", "_law_one", "_law_two", "_law_weaving_here", "_law_short", "_law_long", "_law_k", "_law_alone"]) (sc := defScope s_law) (by decide +kernel)) (fun _ _ _ _ _ => (pg_name (i := 6) sc_law.nd rfl (Or.inl rfl))) (fun _ _ _ _ _ => pts_nil) (fun _ _ _ _ _ => (pe_lst pa_nil)))))
      (pss_cons (ps_if (pt_cmpR op_notN (pe_call G_stale (hr.mono (by decide)) rfl g_stale k_stale b_stale .nil pass0 (pa_cons (pv 2) (pa_cons (pv 13) (pa_cons (pv 4) pa_nil)))) pe_non (nomark _)) (pss_one (ps_ret pe_bl)) (pss_nil))
      (pss_cons (ps_if (pt_cmpR op_notN (pe_call G_stale (hr.mono (by decide)) rfl g_stale k_stale b_stale .nil pass0 (pa_cons (pv 2) (pa_cons (pe_lc (own := [("_law_row", 6)]) rfl sc_law.nd (pi_list (pv 3)) (blkOk_by (own := [("_law_row", 6)]) (N := ["_law_script", "_law_d", "_law_values_here", "_law_programs", "_law_rule_here", "_law_fewer", "_law_row", "_law_one", "_law_two", "_law_weaving_here", "_law_short", "_law_long", "_law_k", "_law_alone"]) (sc := defScope s_law) (by decide +kernel)) (fun _ _ _ _ _ => (pg_name (i := 6) sc_law.nd rfl (Or.inl rfl))) (fun _ _ _ _ _ => pts_nil) (fun _ _ _ _ _ => (pe_lst pa_nil))) (pa_cons (pv 4) pa_nil)))) pe_non (nomark _)) (pss_one (ps_ret pe_bl)) (pss_nil))
      (pss_one (ps_ret (pe_or (pe_cmpR op_isN (pv 7) pe_non (nomark _)) (pe_one (pe_cmpR op_gt (pe_callB call_len_seq rfl f_len PySem.boot_len (pa_cons (pv 7) pa_nil)) pe_int (nomark _))))))))))))))))
end
def loose : List PySem.Str := (["_wall", "__name__", "PileError", "BadPile", "BadDeed", "BadRule", "NoHand", "MOST_VALUES", "MOST_VALUE", "MOST_HANDS", "MOST_DEEDS", "MOST_COUNTS", "need_values", "is_deed", "need_deeds", "need_programs", "need_rule", "Hand", "Machine", "stale", "played", "_law_dice", "_law_next", "_law_values", "_law_deed", "_law_rule", "_law_weaving", "_law_few", "_law_small_case"] : List PySem.Str)
abbrev R : PySem.W.OpenRow := PySem.W.OpenLaw.row PySem.Challenge.rw_stalestack_k38_whole_shorter_programs
abbrev hk : PySem.W.Hook := He.hookD 5 fa fn
def ob (s : PySem.W.SharedT) : He.AlD := He.obsDG 5 fa fn (HandSHeadRun.getT s)
theorem ob_eq (s : PySem.W.SharedT) : ob s = hk.obs s.abs := He.obsDG_eq (HandSHeadRun.getT_eq s)
theorem run (w : World) : HandSHeadRun.RunEq R (PySem.W.view R.prog [34]) hk ob 12000 loose w := by
  intro os
  kernel_rfl
end SR
open PySem PySem.W PySem.Calls PyProof.Rows
theorem PySem.Challenge.cw_stalestack_k38_whole_shorter_programs_holds : PySem.Challenge.rw_stalestack_k38_whole_shorter_programs.Holds := by
  w_on; o_law
  refine HandSHeadRun.head_any (r := OpenLaw.row PySem.Challenge.rw_stalestack_k38_whole_shorter_programs) (q := view (OpenLaw.row PySem.Challenge.rw_stalestack_k38_whole_shorter_programs).prog [34]) (H := SR.hk) (ob := SR.ob) (M := 12000) (loose := SR.loose) (d := HandSHeadRun.topDef (OpenLaw.row PySem.Challenge.rw_stalestack_k38_whole_shorter_programs).prog 34) (kwd := []) SR.ob_eq
    (by kernel_rfl) (fun s => by kernel_rfl) SR.run (by kernel_rfl) (by kernel_rfl) (by kernel_rfl) (by rfl) (by first | assumption | decide +kernel) (by decide +kernel) ⟨rfl, rfl, rfl, rfl, rfl, by decide +kernel⟩ ?hw ?hc
  case hw => w_witness2
  case hc =>
    refine L2.walk_ofE (l := PySem.Challenge.rw_stalestack_k38_whole_shorter_programs) (n := 63) (k := 8) (x := "_law_script") (CX := L2.CX0) rfl (by decide) (by kernel_rfl) ⟨rfl, by decide, by decide⟩ ?F (fun _ _ _ _ z => z)
    intro w mg fa h Y G hmg0
    obtain ⟨K, KX, c⟩ := Y
    have hmg : mg ("law" : PySem.Str) = some (.ref fa) := by
      have e : (HandSHeadRun.topDef (OpenLaw.row PySem.Challenge.rw_stalestack_k38_whole_shorter_programs).prog 34).name = ("law" : PySem.Str) := by kernel_rfl
      rw [← e]
      exact hmg0
    have e := hmg.symm.trans (He.glo_ok KX G (c.fact 65 (f := .glo "law") rfl))
    cases e
    obtain ⟨fd, F2, _, _, F0⟩ := SR.ok_law (P := (PySem.Challenge.rw_stalestack_k38_whole_shorter_programs).prog) (w := w) KX G c
    have b2 := L2.FunD.bindsA (ps := ["_law_script"]) F0 fun _ _ _ _ _ _ us hl => match us, hl with | [_], _ => rfl
    exact ⟨K, fd, SS.sp_law (SR.ZZ K), KX, fun s v => b2 s [v] rfl, fun H a ns hl hO hS => ⟨a, ns, rfl, SS.ScrAt.of hO hS, hl, fun _ => rfl⟩, fun base _ _ => F2 base⟩


