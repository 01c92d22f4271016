import PyProof.Rows.All
import Wide.All
import OpenK.AllK
import Wide.FinOn
import KE.KStateDown
import HandS.ForMost
import HandS.Exc
import HandS.Defaults
import HandS.HeadHook1
import HandS.HeadHook2
import HandS.HeadHook3
import HandS.HeadHook4
import PySem.Challenge.RW_choicerows_k58_whole_no_run_fails_ahead
import HandS.ExcSuper
import HandS.ExcField
import HandS.Head0
import HandS.Head1
import HandS.Head2
import HandS.Flow
import HandS.TupAny
import HandS.DictComp
import HandS.AnyAll
import HandS.Lambda
import HandS.WordsExc
import KE.LtData
import KE.SortKeyHeap
import HandS.SortKw
import HandS.Walk
import HandS.SetBool
import HandS.Strs
import PyProof.GenCompD
import HandS.HeadEnd
import HandS.HeadWalk
import HandS.NestedK
set_option autoImplicit false
/-! Choicerows: machines, runs and layers as plain functions; the law's mathematics. -/
namespace CRM

inductive Cd where
  | atm (n : Int)
  | dv (n : Int)
  | nt (c : Cd)
  | orr (c d : Cd)

def Cd.ok : Cd → Int → Bool
  | .atm n, v => decide (v ≤ n)
  | .dv n, v => decide (v % n = 0)
  | .nt c, v => !c.ok v
  | .orr c d, v => c.ok v || d.ok v

/-- a drawer of one integer: low, high, perhaps a condition -/
structure Gn where
  lo : Int
  hi : Int
  kc : Option Cd

inductive Ef where
  | add | take | set

structure Cm where
  nm : Nat
  gd : Cd
  gn : Gn
  ef : Ef

def Ef.app : Ef → Int → Int → Int
  | .add, s, a => s + a
  | .take, s, a => s - a
  | .set, _, a => a

/-- whether the drawer keeps a value -/
def Gn.keeps (g : Gn) (v : Int) : Bool := match g.kc with
  | none => true
  | some c => c.ok v

/-- the value that the choice c draws -/
def Gn.val (g : Gn) (c : Int) : Option Int :=
  if 0 ≤ c ∧ c ≤ g.hi - g.lo then (if g.keeps (g.lo + c) = true then some (g.lo + c) else none) else none

/-- value and row, in order -/
def Gn.full (g : Gn) : List (Int × List Int) := (List.range (g.hi - g.lo + 1).toNat).map fun (k : Nat) => (g.lo + (k : Int), [(k : Int)])
def Gn.tab (g : Gn) : List (Int × List Int) := g.full.filter fun p => g.keeps p.1

/-! ### the order of rows -/
def lexLt : List Int → List Int → Bool
  | [], [] => false
  | [], _ :: _ => true
  | _ :: _, [] => false
  | x :: xs, y :: ys => if x = y then lexLt xs ys else decide (x < y)
def less (a b : List Int) : Bool := if a.length = b.length then lexLt a b else decide (a.length < b.length)

theorem lexLt_irrefl : ∀ a : List Int, lexLt a a = false
  | [] => rfl
  | x :: xs => by unfold lexLt; rw [if_pos rfl]; exact lexLt_irrefl xs
theorem less_irrefl (a : List Int) : less a a = false := by
  unfold less; rw [if_pos rfl]; exact lexLt_irrefl a
theorem lexLt_trans : ∀ {a b c : List Int}, lexLt a b = true → lexLt b c = true → lexLt a c = true
  | [], [], _, h, _ => by cases h
  | [], _ :: _, [], _, h => by cases h
  | [], _ :: _, _ :: _, _, _ => rfl
  | _ :: _, [], _, h, _ => by cases h
  | _ :: _, _ :: _, [], _, h => by cases h
  | x :: xs, y :: ys, z :: zs, h1, h2 => by
    unfold lexLt at h1 h2 ⊢
    by_cases e1 : x = y
    · rw [if_pos e1] at h1
      by_cases e2 : y = z
      · rw [if_pos e2] at h2
        rw [if_pos (e1.trans e2)]
        exact lexLt_trans h1 h2
      · rw [if_neg e2] at h2
        rw [if_neg (by omega)]
        subst e1
        exact h2
    · rw [if_neg e1] at h1
      have g1 := of_decide_eq_true h1
      by_cases e2 : y = z
      · subst e2
        rw [if_neg e1]
        exact h1
      · rw [if_neg e2] at h2
        have g2 := of_decide_eq_true h2
        rw [if_neg (by omega)]
        exact decide_eq_true (by omega)
theorem less_trans {a b c : List Int} (h1 : less a b = true) (h2 : less b c = true) : less a c = true := by
  unfold less at h1 h2 ⊢
  by_cases e1 : a.length = b.length
  · rw [if_pos e1] at h1
    by_cases e2 : b.length = c.length
    · rw [if_pos e2] at h2
      rw [if_pos (e1.trans e2)]
      exact lexLt_trans h1 h2
    · rw [if_neg e2] at h2
      have g2 := of_decide_eq_true h2
      rw [if_neg (by omega)]
      exact decide_eq_true (by omega)
  · rw [if_neg e1] at h1
    have g1 := of_decide_eq_true h1
    by_cases e2 : b.length = c.length
    · rw [if_neg (by omega)]
      exact decide_eq_true (by omega)
    · rw [if_neg e2] at h2
      have g2 := of_decide_eq_true h2
      rw [if_neg (by omega)]
      exact decide_eq_true (by omega)
theorem lexLt_total : ∀ {a b : List Int}, a.length = b.length → lexLt a b = false → lexLt b a = false → a = b
  | [], [], _, _, _ => rfl
  | [], _ :: _, h, _, _ => by simp at h
  | _ :: _, [], h, _, _ => by simp at h
  | x :: xs, y :: ys, h, h1, h2 => by
    unfold lexLt at h1 h2
    by_cases e : x = y
    · subst e
      rw [if_pos rfl] at h1 h2
      rw [lexLt_total (by simpa using h) h1 h2]
    · rw [if_neg e] at h1
      rw [if_neg (fun z => e z.symm)] at h2
      have g1 := of_decide_eq_false h1
      have g2 := of_decide_eq_false h2
      omega
/-- not behind -/
def leq (a b : List Int) : Prop := less b a = false
theorem leq_refl (a : List Int) : leq a a := less_irrefl a
theorem less_total {a b : List Int} (h1 : less a b = false) (h2 : less b a = false) : a = b := by
  unfold less at h1 h2
  by_cases e : a.length = b.length
  · rw [if_pos e] at h1
    rw [if_pos e.symm] at h2
    exact lexLt_total e h1 h2
  · rw [if_neg e] at h1
    rw [if_neg (fun z => e z.symm)] at h2
    have g1 := of_decide_eq_false h1
    have g2 := of_decide_eq_false h2
    omega
theorem leq_of_less {a b : List Int} (h : less a b = true) : leq a b := by
  unfold leq
  cases e : less b a with
  | false => rfl
  | true =>
    have := less_trans h e
    rw [less_irrefl] at this
    cases this
theorem leq_trans {a b c : List Int} (h1 : leq a b) (h2 : leq b c) : leq a c := by
  unfold leq at h1 h2 ⊢
  cases e : less c a with
  | false => rfl
  | true =>
    cases e2 : less a b with
    | true =>
      have := less_trans e e2
      rw [h2] at this
      cases this
    | false =>
      have := less_total e2 h1
      subst this
      rw [h2] at e
      cases e
theorem lexLt_app : ∀ (p : List Int) {a b : List Int}, a.length = b.length → lexLt (a ++ p) (b ++ p) = lexLt a b
  | p, [], [], _ => lexLt_irrefl p
  | _, [], _ :: _, h => by simp at h
  | _, _ :: _, [], h => by simp at h
  | p, x :: xs, y :: ys, h => by
    rw [List.cons_append, List.cons_append]
    unfold lexLt
    rw [lexLt_app p (by simpa using h)]
theorem less_app (p a b : List Int) : less (a ++ p) (b ++ p) = less a b := by
  unfold less
  by_cases e : a.length = b.length
  · rw [if_pos e, if_pos (by simp [e]), lexLt_app p e]
  · rw [if_neg e, if_neg (by simp; omega)]
    congr 1
    simp
theorem leq_app {a b : List Int} (p : List Int) (h : leq a b) : leq (a ++ p) (b ++ p) := by
  unfold leq at h ⊢
  rw [less_app]
  exact h
theorem leq_of_len {a b : List Int} (h : a.length < b.length) : leq a b := by
  unfold leq less
  rw [if_neg (by omega)]
  exact decide_eq_false (by omega)

/-! ### runs -/
def allowed (cs : List Cm) (s : Int) : List Cm := cs.filter fun c => c.gd.ok s

/-- what a step gives: nothing (the run has no value), the end, a state; with the place behind it -/
inductive Stp where
  | bad
  | fin (place : Nat)
  | go (arg s : Int) (nm : Nat) (place : Nat)

def step (cs : List Cm) (row : List Int) (place : Nat) (s : Int) : Stp :=
  match row[place]? with
  | none => .bad
  | some b =>
    if 0 ≤ b ∧ b ≤ 1 then
      if b = 0 then .fin (place + 1)
      else match (allowed cs s) with
        | [] => .bad
        | _ :: _ => match row[place + 1]? with
          | none => .bad
          | some k => if 0 ≤ k ∧ k ≤ ((allowed cs s).length : Int) - 1 then
              match (allowed cs s)[k.toNat]? with
              | none => .bad
              | some c => match row[place + 2]? with
                | none => .bad
                | some d => match c.gn.val d with
                  | none => .bad
                  | some a => .go a (c.ef.app s a) c.nm (place + 3)
            else .bad
    else .bad

/-- n steps from a place; the triples so far in acc (name, argument, state behind) -/
def run (cs : List Cm) (row : List Int) : Nat → Nat → Int → List (Nat × Int × Int) → Option (List (Nat × Int × Int) × Nat)
  | 0, place, _, acc => some (acc, place)
  | n + 1, place, s, acc => match step cs row place s with
    | .bad => none
    | .fin p => some (acc, p)
    | .go a s' nm p => run cs row n p s' (acc ++ [(nm, a, s')])

structure Mc where
  first : Int
  cs : List Cm
  most : Nat

def Mc.run (m : Mc) (row : List Int) : Option (List (Nat × Int × Int) × Nat) := CRM.run m.cs row m.most 0 m.first []
def Mc.fails (m : Mc) (inv : Cd) (row : List Int) : Bool := match m.run row with
  | none => false
  | some (ts, used) => if used < row.length then false else !((m.first :: ts.map fun t => t.2.2).all fun s => inv.ok s)

/-! ### layers -/
abbrev Lay := List (Int × List Int)
def putS (L : Lay) (s : Int) (r : List Int) : Lay := if (L.any fun p => decide (p.1 = s)) = true then L.map (fun p => if p.1 = s then (p.1, r) else p) else L ++ [(s, r)]
def getS (L : Lay) (s : Int) : Option (List Int) := (L.find? fun p => decide (p.1 = s)).map (·.2)
def better (L : Lay) (s : Int) (r : List Int) : Bool := match getS L s with
  | none => true
  | some q => less r q
def put1 (L : Lay) (p : Int × List Int) : Lay := if better L p.1 p.2 = true then putS L p.1 p.2 else L
def stepsFrom (cs : List Cm) (r : List Int) (s : Int) : Lay :=
  (List.range (allowed cs s).length).flatMap fun k => match (allowed cs s)[k]? with
    | none => []
    | some c => c.gn.tab.map fun p => (c.ef.app s p.1, r ++ [1, (k : Int)] ++ p.2)
def further (cs : List Cm) (L : Lay) : Lay := L.foldl (fun acc p => (stepsFrom cs p.2 p.1).foldl put1 acc) []
def layersN (cs : List Cm) (first : Int) : Nat → List Lay
  | 0 => [[(first, [])]]
  | n + 1 => layersN cs first n ++ [further cs ((layersN cs first n).getLastD [])]
def Mc.layers (m : Mc) : List Lay := layersN m.cs m.first m.most

/-- the layer with the number i -/
def layN (cs : List Cm) (first : Int) : Nat → Lay
  | 0 => [(first, [])]
  | n + 1 => further cs (layN cs first n)
theorem layersN_eq (cs : List Cm) (first : Int) : ∀ n, layersN cs first n = (List.range (n + 1)).map (layN cs first)
  | 0 => rfl
  | n + 1 => by
    have ih := layersN_eq cs first n
    unfold layersN
    rw [List.range_succ, List.map_append, ← ih]
    congr 1
    show [further cs _] = [further cs (layN cs first n)]
    congr 2
    rw [ih, List.range_succ, List.map_append]
    simp

/-- the row of a state at the number i, where most steps are made -/
def ender (most i : Nat) (r : List Int) : List Int := if i < most then r ++ [0] else r
def beats (b : Option (List Int)) (r : List Int) : Bool := match b with
  | none => true
  | some q => less r q
def best1 (inv : Cd) (most i : Nat) (b : Option (List Int)) (p : Int × List Int) : Option (List Int) :=
  if (!inv.ok p.1 && beats b (ender most i p.2)) = true then some (ender most i p.2) else b
def bestL (inv : Cd) (most i : Nat) (b : Option (List Int)) (L : Lay) : Option (List Int) := L.foldl (best1 inv most i) b
def Mc.least (m : Mc) (inv : Cd) : Option (List Int) :=
  (List.range m.layers.length).foldl (fun b i => bestL inv m.most i b (m.layers.getD i [])) none

/-! ### the layers' laws -/
theorem getS_nil (s : Int) : getS [] s = none := rfl
theorem getS_cons (p : Int × List Int) (L : Lay) (s : Int) : getS (p :: L) s = if p.1 = s then some p.2 else getS L s := by
  unfold getS
  rw [List.find?_cons]
  by_cases e : p.1 = s
  · rw [if_pos e]; simp [e]
  · rw [if_neg e]; simp [e]
theorem getS_some_mem {L : Lay} {s : Int} {r : List Int} (h : getS L s = some r) : (s, r) ∈ L := by
  induction L with
  | nil => cases h
  | cons p L ih =>
    rw [getS_cons] at h
    by_cases e : p.1 = s
    · rw [if_pos e] at h
      have := Option.some.inj h
      subst this e
      exact List.mem_cons_self
    · rw [if_neg e] at h
      exact List.mem_cons_of_mem _ (ih h)
theorem getS_of_mem {L : Lay} (nd : (L.map (·.1)).Nodup) {s : Int} {r : List Int} (h : (s, r) ∈ L) : getS L s = some r := by
  induction L with
  | nil => cases h
  | cons p L ih =>
    rw [List.map_cons, List.nodup_cons] at nd
    rw [getS_cons]
    rcases List.mem_cons.mp h with e | h
    · subst e
      rw [if_pos rfl]
    · by_cases e : p.1 = s
      · exact absurd (List.mem_map.mpr ⟨_, h, e.symm⟩) nd.1
      · rw [if_neg e]
        exact ih nd.2 h
theorem getS_none_iff {L : Lay} {s : Int} : getS L s = none ↔ s ∉ L.map (·.1) := by
  induction L with
  | nil => simp [getS_nil]
  | cons p L ih =>
    rw [getS_cons, List.map_cons, List.mem_cons]
    by_cases e : p.1 = s
    · rw [if_pos e]
      constructor
      · intro h; cases h
      · intro h; exact absurd (Or.inl e.symm) h
    · rw [if_neg e, ih]
      constructor
      · intro h z
        rcases z with z | z
        · exact e z.symm
        · exact h z
      · intro h z
        exact h (Or.inr z)
theorem any_iff {L : Lay} {s : Int} : (L.any fun p => decide (p.1 = s)) = true ↔ s ∈ L.map (·.1) := by
  rw [List.any_eq_true, List.mem_map]
  constructor
  · rintro ⟨p, h, e⟩
    exact ⟨p, h, of_decide_eq_true e⟩
  · rintro ⟨p, h, e⟩
    exact ⟨p, h, decide_eq_true e⟩
theorem getS_map (L : Lay) (s t : Int) (r : List Int) : getS (L.map fun p => if p.1 = s then (p.1, r) else p) t = if t = s then (getS L t).map (fun _ => r) else getS L t := by
  induction L with
  | nil => by_cases e : t = s <;> simp [e, getS_nil]
  | cons p L ih =>
    rw [List.map_cons, getS_cons, getS_cons, ih]
    by_cases e1 : p.1 = s
    · rw [if_pos e1]
      by_cases e2 : p.1 = t
      · have : t = s := by omega
        simp [e2, this]
      · have : ¬ t = s := by omega
        simp [e2, this]
    · rw [if_neg e1]
      by_cases e2 : p.1 = t
      · have : ¬ t = s := by omega
        simp [e2, this]
      · simp [e2]
theorem getS_append (L M : Lay) (t : Int) : getS (L ++ M) t = (getS L t).or (getS M t) := by
  induction L with
  | nil => simp [getS_nil]
  | cons p L ih =>
    rw [List.cons_append, getS_cons, getS_cons, ih]
    by_cases e : p.1 = t
    · simp [e]
    · simp [e]
theorem getS_put (L : Lay) (s t : Int) (r : List Int) : getS (putS L s r) t = if t = s then some r else getS L t := by
  unfold putS
  by_cases h : (L.any fun p => decide (p.1 = s)) = true
  · rw [if_pos h, getS_map]
    by_cases e : t = s
    · rw [if_pos e, if_pos e]
      subst e
      cases q : getS L t with
      | none => exact absurd (any_iff.mp h) (getS_none_iff.mp q)
      | some x => rfl
    · rw [if_neg e, if_neg e]
  · rw [if_neg h, getS_append]
    by_cases e : t = s
    · subst e
      have : getS L t = none := getS_none_iff.mpr fun z => h (any_iff.mpr z)
      rw [this, getS_cons]
      simp
    · rw [getS_cons, if_neg (fun z => e z.symm), getS_nil, if_neg e]
      cases getS L t <;> rfl
theorem nd_put {L : Lay} (nd : (L.map (·.1)).Nodup) (s : Int) (r : List Int) : ((putS L s r).map (·.1)).Nodup := by
  unfold putS
  by_cases h : (L.any fun p => decide (p.1 = s)) = true
  · rw [if_pos h, List.map_map]
    have e : ((fun p : Int × List Int => p.1) ∘ fun p => if p.1 = s then (p.1, r) else p) = fun p => p.1 := by
      funext p
      show (if p.1 = s then (p.1, r) else p).1 = p.1
      by_cases e : p.1 = s
      · rw [if_pos e]
      · rw [if_neg e]
    rw [e]
    exact nd
  · rw [if_neg h, List.map_append, List.nodup_append]
    refine ⟨nd, by simp, fun a ha b hb => ?_⟩
    have : b = s := by simpa using hb
    subst this
    intro z
    subst z
    exact h (any_iff.mpr ha)
theorem nd_put1 {L : Lay} (nd : (L.map (·.1)).Nodup) (p : Int × List Int) : ((put1 L p).map (·.1)).Nodup := by
  unfold put1
  split
  · exact nd_put nd _ _
  · exact nd
theorem getS_put1 (L : Lay) (p : Int × List Int) (t : Int) : getS (put1 L p) t = if t = p.1 ∧ better L p.1 p.2 = true then some p.2 else getS L t := by
  unfold put1
  by_cases h : better L p.1 p.2 = true
  · rw [if_pos h, getS_put]
    simp [h]
  · rw [if_neg h]
    simp [h]
/-- what a fold of put1 knows: each row is of a pair, and none of the pairs is less -/
theorem fold_put1 : ∀ (ps : Lay) (L : Lay), (L.map (·.1)).Nodup → ((ps.foldl put1 L).map (·.1)).Nodup ∧
    (∀ t r, getS (ps.foldl put1 L) t = some r → (getS L t = some r ∨ (t, r) ∈ ps)) ∧
    (∀ t r, (getS L t = some r ∨ (t, r) ∈ ps) → ∃ q, getS (ps.foldl put1 L) t = some q ∧ leq q r)
  | [], L, nd => ⟨nd, fun t r h => Or.inl h, fun t r h => by
      rcases h with h | h
      · exact ⟨r, h, leq_refl r⟩
      · cases h⟩
  | p :: ps, L, nd => by
    have nd1 := nd_put1 nd p
    obtain ⟨a1, a2, a3⟩ := fold_put1 ps (put1 L p) nd1
    refine ⟨a1, fun t r h => ?_, fun t r h => ?_⟩
    · rcases a2 t r h with h | h
      · rw [getS_put1] at h
        by_cases c : t = p.1 ∧ better L p.1 p.2 = true
        · rw [if_pos c] at h
          have e := Option.some.inj h
          right
          rw [← e, c.1]
          exact List.mem_cons_self
        · rw [if_neg c] at h
          exact Or.inl h
      · exact Or.inr (List.mem_cons_of_mem _ h)
    · have key : ∃ q, getS (put1 L p) t = some q ∧ leq q r ∨ (t, r) ∈ ps := by
        rcases h with h | h
        · refine ⟨if t = p.1 ∧ better L p.1 p.2 = true then p.2 else r, Or.inl ?_⟩
          rw [getS_put1]
          by_cases c : t = p.1 ∧ better L p.1 p.2 = true
          · rw [if_pos c, if_pos c]
            refine ⟨rfl, ?_⟩
            obtain ⟨c1, c2⟩ := c
            unfold better at c2
            rw [← c1, h] at c2
            exact leq_of_less c2
          · rw [if_neg c, if_neg c]
            exact ⟨h, leq_refl r⟩
        · rcases List.mem_cons.mp h with e | h
          · by_cases c : better L p.1 p.2 = true
            · refine ⟨p.2, Or.inl ?_⟩
              rw [getS_put1]
              have e1 : t = p.1 := by rw [← e]
              rw [if_pos ⟨e1, c⟩]
              refine ⟨rfl, ?_⟩
              rw [← e]
              exact leq_refl _
            · have e1 : t = p.1 := by rw [← e]
              have e2 : r = p.2 := by rw [← e]
              unfold better at c
              cases q : getS L p.1 with
              | none => rw [q] at c; exact absurd rfl c
              | some x =>
                rw [q] at c
                refine ⟨x, Or.inl ?_⟩
                rw [getS_put1, if_neg (fun z => by
                  have z2 := z.2
                  unfold better at z2
                  rw [q] at z2
                  exact c z2), e1]
                refine ⟨q, ?_⟩
                rw [e2]
                unfold leq
                cases w : less p.2 x with
                | true => exact absurd w c
                | false => rfl
          · exact ⟨[], Or.inr h⟩
      obtain ⟨q, h | h⟩ := key
      · obtain ⟨q2, b1, b2⟩ := a3 t q (Or.inl h.1)
        exact ⟨q2, b1, leq_trans b2 h.2⟩
      · exact a3 t r (Or.inr h)

theorem mem_stepsFrom {cs : List Cm} {r : List Int} {s t : Int} {q : List Int} : (t, q) ∈ stepsFrom cs r s ↔ ∃ (k : Nat) (c : Cm) (a : Int) (e : List Int), (allowed cs s)[k]? = some c ∧ (a, e) ∈ c.gn.tab ∧ t = c.ef.app s a ∧ q = r ++ [1, (k : Int)] ++ e := by
  unfold stepsFrom
  rw [List.mem_flatMap]
  constructor
  · rintro ⟨k, hk, h⟩
    cases hc : (allowed cs s)[k]? with
    | none => rw [hc] at h; cases h
    | some c =>
      rw [hc] at h
      obtain ⟨⟨a, e⟩, h1, h2⟩ := List.mem_map.mp h
      injection h2 with h3 h4
      exact ⟨k, c, a, e, hc, h1, h3.symm, h4.symm⟩
  · rintro ⟨k, c, a, e, hc, h1, h2, h3⟩
    refine ⟨k, List.mem_range.mpr (List.getElem?_eq_some_iff.mp hc).1, ?_⟩
    rw [hc]
    exact List.mem_map.mpr ⟨(a, e), h1, by rw [h2, h3]⟩

theorem mem_tab {g : Gn} {a : Int} {e : List Int} : (a, e) ∈ g.tab ↔ ∃ d : Int, e = [d] ∧ g.val d = some a := by
  unfold Gn.tab Gn.full
  rw [List.mem_filter, List.mem_map]
  constructor
  · rintro ⟨⟨k, hk, e1⟩, h2⟩
    injection e1 with e2 e3
    have hk2 := List.mem_range.mp hk
    refine ⟨(k : Int), e3.symm, ?_⟩
    unfold Gn.val
    rw [if_pos (by omega), e2]
    have h3 : g.keeps a = true := h2
    rw [if_pos h3]
  · rintro ⟨d, e1, h⟩
    unfold Gn.val at h
    by_cases c : 0 ≤ d ∧ d ≤ g.hi - g.lo
    · rw [if_pos c] at h
      by_cases c2 : g.keeps (g.lo + d) = true
      · rw [if_pos c2] at h
        have e2 := Option.some.inj h
        refine ⟨⟨d.toNat, List.mem_range.mpr (by omega), ?_⟩, ?_⟩
        · have e3 : ((d.toNat : Nat) : Int) = d := by omega
          rw [e3, e2, e1]
        · show g.keeps a = true
          rw [← e2]
          exact c2
      · rw [if_neg c2] at h
        cases h
    · rw [if_neg c] at h
      cases h

/-- the layer behind: its rows come from the layer ahead, and are the least -/
theorem further_spec (cs : List Cm) : ∀ (L : Lay), ((further cs L).map (·.1)).Nodup ∧
    (∀ t r, getS (further cs L) t = some r → ∃ p ∈ L, (t, r) ∈ stepsFrom cs p.2 p.1) ∧
    (∀ p ∈ L, ∀ t r, (t, r) ∈ stepsFrom cs p.2 p.1 → ∃ q, getS (further cs L) t = some q ∧ leq q r) := by
  intro L
  have gen : ∀ (L : Lay) (A : Lay), (A.map (·.1)).Nodup → ((L.foldl (fun acc p => (stepsFrom cs p.2 p.1).foldl put1 acc) A).map (·.1)).Nodup ∧
      (∀ t r, getS (L.foldl (fun acc p => (stepsFrom cs p.2 p.1).foldl put1 acc) A) t = some r → (getS A t = some r ∨ ∃ p ∈ L, (t, r) ∈ stepsFrom cs p.2 p.1)) ∧
      (∀ t r, (getS A t = some r ∨ ∃ p ∈ L, (t, r) ∈ stepsFrom cs p.2 p.1) → ∃ q, getS (L.foldl (fun acc p => (stepsFrom cs p.2 p.1).foldl put1 acc) A) t = some q ∧ leq q r) := by
    intro L
    induction L with
    | nil =>
      intro A nd
      refine ⟨nd, fun t r h => Or.inl h, fun t r h => ?_⟩
      rcases h with h | ⟨p, hp, _⟩
      · exact ⟨r, h, leq_refl r⟩
      · cases hp
    | cons p L ih =>
      intro A nd
      obtain ⟨b1, b2, b3⟩ := fold_put1 (stepsFrom cs p.2 p.1) A nd
      obtain ⟨a1, a2, a3⟩ := ih _ b1
      refine ⟨a1, fun t r h => ?_, fun t r h => ?_⟩
      · rcases a2 t r h with h | ⟨p', hp', h⟩
        · rcases b2 t r h with h | h
          · exact Or.inl h
          · exact Or.inr ⟨p, List.mem_cons_self, h⟩
        · exact Or.inr ⟨p', List.mem_cons_of_mem _ hp', h⟩
      · rcases h with h | ⟨p', hp', h⟩
        · obtain ⟨q, c1, c2⟩ := b3 t r (Or.inl h)
          obtain ⟨q2, d1, d2⟩ := a3 t q (Or.inl c1)
          exact ⟨q2, d1, leq_trans d2 c2⟩
        · rcases List.mem_cons.mp hp' with e | hp'
          · subst e
            obtain ⟨q, c1, c2⟩ := b3 t r (Or.inr h)
            obtain ⟨q2, d1, d2⟩ := a3 t q (Or.inl c1)
            exact ⟨q2, d1, leq_trans d2 c2⟩
          · exact a3 t r (Or.inr ⟨p', hp', h⟩)
  obtain ⟨a1, a2, a3⟩ := gen L [] (by simp)
  refine ⟨a1, fun t r h => ?_, fun p hp t r h => a3 t r (Or.inr ⟨p, hp, h⟩)⟩
  rcases a2 t r h with h | h
  · cases h
  · exact h

theorem layN_nd (cs : List Cm) (first : Int) : ∀ i, ((layN cs first i).map (·.1)).Nodup
  | 0 => by simp [layN]
  | i + 1 => (further_spec cs (layN cs first i)).1

/-! ### a step, forward and backward -/
theorem step_go {cs : List Cm} {row : List Int} {place : Nat} {s a s' : Int} {nm p : Nat} (h : step cs row place s = .go a s' nm p) :
    ∃ (k : Nat) (c : Cm) (d : Int), row[place]? = some 1 ∧ row[place + 1]? = some (k : Int) ∧ (allowed cs s)[k]? = some c ∧ row[place + 2]? = some d ∧ c.gn.val d = some a ∧ s' = c.ef.app s a ∧ nm = c.nm ∧ p = place + 3 := by
  unfold step at h
  split at h
  · cases h
  · rename_i b hb
    split at h
    · rename_i c1
      split at h
      · cases h
      · rename_i c2
        split at h
        · cases h
        · split at h
          · cases h
          · rename_i k hk
            split at h
            · rename_i c3
              split at h
              · cases h
              · rename_i c hc
                split at h
                · cases h
                · rename_i d hd
                  split at h
                  · cases h
                  · rename_i a' ha
                    injection h with h1 h2 h3 h4
                    refine ⟨k.toNat, c, d, ?_, ?_, hc, hd, ?_, ?_, h3.symm, h4.symm⟩
                    · rw [hb]; congr 1; omega
                    · rw [hk]; congr 1; omega
                    · rw [ha, h1]
                    · rw [← h2, h1]
            · cases h
    · cases h
theorem step_fin {cs : List Cm} {row : List Int} {place p : Nat} {s : Int} (h : step cs row place s = .fin p) : row[place]? = some 0 ∧ p = place + 1 := by
  unfold step at h
  split at h
  · cases h
  · rename_i b hb
    split at h
    · split at h
      · rename_i c2
        injection h with h1
        exact ⟨by rw [hb, c2], h1.symm⟩
      · split at h
        · cases h
        · split at h
          · cases h
          · split at h
            · split at h
              · cases h
              · split at h
                · cases h
                · split at h <;> cases h
            · cases h
    · cases h
theorem step_of {cs : List Cm} {row : List Int} {place k : Nat} {s a d : Int} {c : Cm} (h1 : row[place]? = some 1) (h2 : row[place + 1]? = some (k : Int)) (h3 : (allowed cs s)[k]? = some c) (h4 : row[place + 2]? = some d) (h5 : c.gn.val d = some a) :
    step cs row place s = .go a (c.ef.app s a) c.nm (place + 3) := by
  have hk : k < (allowed cs s).length := (List.getElem?_eq_some_iff.mp h3).1
  have hne : ∃ x xs, allowed cs s = x :: xs := by
    cases e : allowed cs s with
    | nil => rw [e] at hk; simp at hk
    | cons x xs => exact ⟨x, xs, rfl⟩
  obtain ⟨x, xs, hx⟩ := hne
  unfold step
  rw [h1]
  show (if (0 : Int) ≤ 1 ∧ (1 : Int) ≤ 1 then _ else _) = _
  rw [if_pos (by omega)]
  rw [if_neg (by omega)]
  rw [hx]
  show (match row[place + 1]? with | none => Stp.bad | some k => _) = _
  rw [h2]
  show (if 0 ≤ (k : Int) ∧ (k : Int) ≤ ((x :: xs).length : Int) - 1 then _ else _) = _
  rw [hx] at hk h3
  rw [if_pos (by omega)]
  have ek : ((k : Int)).toNat = k := by omega
  rw [ek, h3]
  show (match row[place + 2]? with | none => Stp.bad | some d => _) = _
  rw [h4]
  show (match c.gn.val d with | none => Stp.bad | some a => _) = _
  rw [h5]
theorem step_zero {cs : List Cm} {row : List Int} {place : Nat} {s : Int} (h1 : row[place]? = some 0) : step cs row place s = .fin (place + 1) := by
  unfold step
  rw [h1]
  show (if (0 : Int) ≤ 0 ∧ (0 : Int) ≤ 1 then _ else _) = _
  rw [if_pos (by omega), if_pos rfl]

/-! ### the run's states are in the layers, and the layers' rows are not behind the run's -/
/-- behind i steps: the state stands in the layer i, with a row that is not behind the row's beginning -/
theorem run_states {cs : List Cm} {row : List Int} (first : Int) : ∀ (n : Nat) (i : Nat) (s : Int) (acc : List (Nat × Int × Int)) (q : List Int) (ts : List (Nat × Int × Int)) (used : Nat),
    getS (layN cs first i) s = some q → leq q (row.take (3 * i)) → 3 * i ≤ row.length → run cs row n (3 * i) s acc = some (ts, used) →
    ∃ (more : List (Nat × Int × Int)), ts = acc ++ more ∧ used ≤ row.length ∧
      ∀ (j : Nat) (t : Nat × Int × Int), more[j]? = some t → j < n ∧ 3 * (i + j + 1) ≤ used ∧ (∃ q', getS (layN cs first (i + j + 1)) t.2.2 = some q' ∧ leq q' (row.take (3 * (i + j + 1)))) ∧ (used = 3 * (i + j + 1) → j + 1 = n) := by
  intro n
  induction n with
  | zero =>
    intro i s acc q ts used hg hl hle h
    unfold run at h
    injection h with h
    injection h with h1 h2
    refine ⟨[], by simp [h1], by omega, fun j t hj => by simp at hj⟩
  | succ n ih =>
    intro i s acc q ts used hg hl hle h
    unfold run at h
    cases hst : step cs row (3 * i) s with
    | bad => rw [hst] at h; cases h
    | fin p =>
      rw [hst] at h
      obtain ⟨e0, e1⟩ := step_fin hst
      injection h with h
      injection h with h1 h2
      have hlt := (List.getElem?_eq_some_iff.mp e0).1
      exact ⟨[], by simp [h1], by omega, fun j t hj => by simp at hj⟩
    | go a s' nm p =>
      rw [hst] at h
      dsimp only at h
      obtain ⟨k, c, d, e0, e1, e2, e3, e4, e5, e6, e7⟩ := step_go hst
      have hlt := (List.getElem?_eq_some_iff.mp e3).1
      -- the layer behind
      have hm : (s', q ++ [1, (k : Int)] ++ [d]) ∈ stepsFrom cs q s := mem_stepsFrom.mpr ⟨k, c, a, [d], e2, mem_tab.mpr ⟨d, rfl, e4⟩, e5, rfl⟩
      obtain ⟨q', g1, g2⟩ := (further_spec cs (layN cs first i)).2.2 (s, q) (getS_some_mem hg) s' _ hm
      have et : row.take (3 * (i + 1)) = row.take (3 * i) ++ [1, (k : Int), d] := by
        have e9 : 3 * (i + 1) = 3 * i + 1 + 1 + 1 := by omega
        rw [e9, List.take_add_one, List.take_add_one, List.take_add_one, e0]
        have e10 : 3 * i + 1 + 1 = 3 * i + 2 := by omega
        rw [e10, e1, e3]
        simp
      have hl' : leq q' (row.take (3 * (i + 1))) := by
        rw [et]
        refine leq_trans g2 ?_
        have := leq_app [1, (k : Int), d] hl
        simpa using this
      have e8 : p = 3 * (i + 1) := by omega
      rw [e8] at h
      obtain ⟨more, m1, m2, m3⟩ := ih (i + 1) s' (acc ++ [(nm, a, s')]) q' ts used g1 hl' (by omega) h
      refine ⟨(nm, a, s') :: more, by rw [m1]; simp, m2, fun j t hj => ?_⟩
      cases j with
      | zero =>
        have et2 : (nm, a, s') = t := by simpa using hj
        subst et2
        have hu : 3 * (i + 1) ≤ used ∧ (used = 3 * (i + 1) → n = 0) := by
          cases n with
          | zero =>
            unfold run at h
            injection h with h
            injection h with h1 h2
            exact ⟨by omega, fun _ => rfl⟩
          | succ n =>
            unfold run at h
            cases hst2 : step cs row (3 * (i + 1)) s' with
            | bad => rw [hst2] at h; cases h
            | fin p2 =>
              rw [hst2] at h
              obtain ⟨_, f1⟩ := step_fin hst2
              injection h with h
              injection h with h1 h2
              exact ⟨by omega, fun z => by omega⟩
            | go a2 s2 nm2 p2 =>
              cases more with
              | nil =>
                rw [hst2] at h
                exfalso
                -- the run went on: more is not empty
                have len : ∀ (n p : Nat) (s : Int) (acc ts : List (Nat × Int × Int)) (used : Nat), run cs row n p s acc = some (ts, used) → acc.length ≤ ts.length := by
                  intro n
                  induction n with
                  | zero =>
                    intro p s acc ts used h
                    unfold run at h
                    injection h with h
                    injection h with h1 h2
                    rw [h1]
                    exact Nat.le_refl _
                  | succ n ihn =>
                    intro p s acc ts used h
                    unfold run at h
                    split at h
                    · cases h
                    · injection h with h
                      injection h with h1 h2
                      rw [h1]
                      exact Nat.le_refl _
                    · have := ihn _ _ _ _ _ h
                      rw [List.length_append] at this
                      omega
                have := len _ _ _ _ _ _ h
                rw [m1] at this
                simp at this
              | cons t2 more =>
                obtain ⟨_, b2, _, _⟩ := m3 0 t2 rfl
                exact ⟨by omega, fun z => by omega⟩
        refine ⟨by omega, hu.1, ⟨q', g1, hl'⟩, fun z => by have := hu.2 z; omega⟩
      | succ j =>
        have hj' : more[j]? = some t := by simpa using hj
        obtain ⟨b1, b2, b3, b4⟩ := m3 j t hj'
        have e9 : i + 1 + j + 1 = i + (j + 1) + 1 := by omega
        rw [e9] at b2 b3 b4
        exact ⟨by omega, b2, b3, fun z => by have := b4 z; omega⟩

/-! ### each row of the layers is run to its state -/
theorem run_more (cs : List Cm) (row : List Int) : ∀ (n p : Nat) (s : Int) (acc : List (Nat × Int × Int)),
    run cs row n p s acc = (run cs row n p s []).map fun z => (acc ++ z.1, z.2)
  | 0, p, s, acc => by simp [run]
  | n + 1, p, s, acc => by
    unfold run
    cases hst : step cs row p s with
    | bad => rfl
    | fin p2 => simp
    | go a s' nm p2 =>
      show run cs row n p2 s' (acc ++ [(nm, a, s')]) = (run cs row n p2 s' ([] ++ [(nm, a, s')])).map _
      rw [run_more cs row n p2 s' (acc ++ [(nm, a, s')]), run_more cs row n p2 s' ([] ++ [(nm, a, s')])]
      cases run cs row n p2 s' [] with
      | none => rfl
      | some z => simp
/-- the row r leads in i steps from the state first to the state s, whatever stands behind it -/
def Leads (cs : List Cm) (first : Int) (i : Nat) (r : List Int) (s : Int) : Prop :=
  r.length = 3 * i ∧ ∀ (rest : List Int) (n : Nat), ∃ ts : List (Nat × Int × Int), ts.length = i ∧ (i = 0 → s = first) ∧ (∀ t, ts.getLast? = some t → t.2.2 = s) ∧
    run cs (r ++ rest) (i + n) 0 first [] = (run cs (r ++ rest) n (3 * i) s []).map fun z => (ts ++ z.1, z.2)
theorem getElem?_app_at {α : Type} (a b : List α) (j : Nat) : (a ++ b)[a.length + j]? = b[j]? := by
  rw [List.getElem?_append_right (Nat.le_add_right _ _)]
  congr 1
  omega
theorem lead_more {cs : List Cm} {first s : Int} {i : Nat} {r : List Int} (h : Leads cs first i r s) {t : Int} {q : List Int} (hm : (t, q) ∈ stepsFrom cs r s) : Leads cs first (i + 1) q t := by
  obtain ⟨k, c, a, e, h1, h2, h3, h4⟩ := mem_stepsFrom.mp hm
  obtain ⟨d, h5, h6⟩ := mem_tab.mp h2
  obtain ⟨l1, l2⟩ := h
  subst h5 h4
  refine ⟨by simp; omega, fun rest n => ?_⟩
  obtain ⟨ts, t1, t2, t3, t4⟩ := l2 ([1, (k : Int), d] ++ rest) (n + 1)
  refine ⟨ts ++ [(c.nm, a, t)], by simp [t1], fun z => by omega, fun x hx => ?_, ?_⟩
  · rw [List.getLast?_append] at hx
    simp at hx
    rw [← hx]
  · have e1 : r ++ [1, (k : Int)] ++ [d] ++ rest = r ++ ([1, (k : Int), d] ++ rest) := by simp
    rw [e1]
    have e2 : i + 1 + n = i + (n + 1) := by omega
    rw [e2, t4]
    have hst : step cs (r ++ ([1, (k : Int), d] ++ rest)) (3 * i) s = .go a (c.ef.app s a) c.nm (3 * i + 3) := by
      refine step_of (k := k) (d := d) ?_ ?_ h1 ?_ h6
      · have := getElem?_app_at r ([1, (k : Int), d] ++ rest) 0
        rw [l1] at this
        simpa using this
      · have := getElem?_app_at r ([1, (k : Int), d] ++ rest) 1
        rw [l1] at this
        simpa using this
      · have := getElem?_app_at r ([1, (k : Int), d] ++ rest) 2
        rw [l1] at this
        simpa using this
    have e3 : run cs (r ++ ([1, (k : Int), d] ++ rest)) (n + 1) (3 * i) s [] = run cs (r ++ ([1, (k : Int), d] ++ rest)) n (3 * i + 3) (c.ef.app s a) [(c.nm, a, c.ef.app s a)] := by
      conv => lhs; unfold run
      rw [hst]
      rfl
    rw [e3, run_more, ← h3]
    have e4 : 3 * i + 3 = 3 * (i + 1) := by omega
    rw [e4]
    cases run cs (r ++ ([1, (k : Int), d] ++ rest)) n (3 * (i + 1)) t [] with
    | none => rfl
    | some z => simp
theorem lay_leads (cs : List Cm) (first : Int) : ∀ (i : Nat) (s : Int) (r : List Int), getS (layN cs first i) s = some r → Leads cs first i r s
  | 0, s, r, h => by
    have h2 : getS [(first, ([] : List Int))] s = some r := h
    rw [getS_cons] at h2
    by_cases e : first = s
    · rw [if_pos e] at h2
      have e2 := Option.some.inj h2
      subst e2
      refine ⟨rfl, fun rest n => ⟨[], rfl, fun _ => e.symm, fun t ht => by simp at ht, ?_⟩⟩
      subst e
      simp only [List.nil_append, Nat.zero_add, Nat.mul_zero]
      cases run cs rest n 0 first [] with
      | none => rfl
      | some z => rfl
    · rw [if_neg e] at h2
      cases h2
  | i + 1, s, r, h => by
    obtain ⟨p, hp, hm⟩ := (further_spec cs (layN cs first i)).2.1 s r h
    exact lead_more (lay_leads cs first i p.1 p.2 (getS_of_mem (layN_nd cs first i) hp)) hm

/-! ### the least run -/
structure Bst (inv : Cd) (most : Nat) (ls : List (Nat × Int × List Int)) (b : Option (List Int)) : Prop where
  from_ : ∀ r, b = some r → ∃ x ∈ ls, inv.ok x.2.1 = false ∧ r = ender most x.1 x.2.2
  low : ∀ x ∈ ls, inv.ok x.2.1 = false → ∃ r, b = some r ∧ leq r (ender most x.1 x.2.2)
theorem bst_one {inv : Cd} {most : Nat} {ls : List (Nat × Int × List Int)} {b : Option (List Int)} (h : Bst inv most ls b) (i : Nat) (p : Int × List Int) : Bst inv most (ls ++ [(i, p.1, p.2)]) (best1 inv most i b p) := by
  unfold best1
  by_cases c : (!inv.ok p.1 && beats b (ender most i p.2)) = true
  · rw [if_pos c]
    obtain ⟨c1, c2⟩ := Bool.and_eq_true_iff.mp c
    have c1' : inv.ok p.1 = false := by simpa using c1
    refine ⟨fun r hr => ⟨(i, p.1, p.2), by simp, c1', (Option.some.inj hr).symm⟩, fun x hx hxi => ⟨_, rfl, ?_⟩⟩
    rcases List.mem_append.mp hx with hx | hx
    · obtain ⟨r, hr, hl⟩ := h.low x hx hxi
      rw [hr] at c2
      exact leq_trans (leq_of_less c2) hl
    · have e : x = (i, p.1, p.2) := by simpa using hx
      rw [e]
      exact leq_refl _
  · rw [if_neg c]
    refine ⟨fun r hr => ?_, fun x hx hxi => ?_⟩
    · obtain ⟨x, hx, a, b⟩ := h.from_ r hr
      exact ⟨x, List.mem_append_left _ hx, a, b⟩
    · rcases List.mem_append.mp hx with hx | hx
      · exact h.low x hx hxi
      · have e : x = (i, p.1, p.2) := by simpa using hx
        subst e
        have hxi' : inv.ok p.1 = false := hxi
        cases b with
        | none => exact absurd (Bool.and_eq_true_iff.mpr ⟨by rw [hxi']; rfl, rfl⟩) c
        | some q =>
          refine ⟨q, rfl, ?_⟩
          unfold leq
          cases z : less (ender most i p.2) q with
          | false => rfl
          | true => exact absurd (Bool.and_eq_true_iff.mpr ⟨by rw [hxi']; rfl, z⟩) c
theorem bst_lay {inv : Cd} {most : Nat} (i : Nat) : ∀ (L : Lay) {ls : List (Nat × Int × List Int)} {b : Option (List Int)}, Bst inv most ls b → Bst inv most (ls ++ L.map fun p => (i, p.1, p.2)) (bestL inv most i b L)
  | [], ls, b, h => by simpa [bestL] using h
  | p :: L, ls, b, h => by
    have := bst_lay i L (bst_one h i p)
    simpa [bestL] using this
/-- all entries of the layers -/
def entries (cs : List Cm) (first : Int) (n : Nat) : List (Nat × Int × List Int) := (List.range n).flatMap fun i => (layN cs first i).map fun p => (i, p.1, p.2)
theorem bst_upto {inv : Cd} {m : Mc} : ∀ n, n ≤ m.layers.length → Bst inv m.most (entries m.cs m.first n) ((List.range n).foldl (fun b i => bestL inv m.most i b (m.layers.getD i [])) none)
  | 0, _ => ⟨fun r h => (by cases h), fun x hx => (by simp [entries] at hx)⟩
  | n + 1, hn => by
    have ih := bst_upto (inv := inv) (m := m) n (by omega)
    rw [List.range_succ, List.foldl_append]
    have e : entries m.cs m.first (n + 1) = entries m.cs m.first n ++ (layN m.cs m.first n).map fun p => (n, p.1, p.2) := by
      unfold entries
      rw [List.range_succ, List.flatMap_append]
      simp
    rw [e]
    have hl : m.layers.getD n [] = layN m.cs m.first n := by
      unfold Mc.layers at hn ⊢
      rw [layersN_eq] at hn ⊢
      rw [List.length_map, List.length_range] at hn
      rw [List.getD_eq_getElem?_getD, List.getElem?_map, List.getElem?_range (by omega)]
      rfl
    show Bst inv m.most _ (bestL inv m.most n _ (m.layers.getD n []))
    rw [hl]
    exact bst_lay n _ ih
theorem layers_length (m : Mc) : m.layers.length = m.most + 1 := by
  unfold Mc.layers
  rw [layersN_eq]
  simp
theorem layers_get (m : Mc) {i : Nat} (h : i ≤ m.most) : m.layers[i]? = some (layN m.cs m.first i) := by
  unfold Mc.layers
  rw [layersN_eq, List.getElem?_map, List.getElem?_range (by omega)]
  rfl
theorem least_bst (m : Mc) (inv : Cd) : Bst inv m.most (entries m.cs m.first (m.most + 1)) (m.least inv) := by
  unfold Mc.least
  rw [layers_length]
  exact bst_upto _ (by rw [layers_length]; exact Nat.le_refl _)
theorem mem_entries {cs : List Cm} {first : Int} {n : Nat} {x : Nat × Int × List Int} : x ∈ entries cs first n ↔ x.1 < n ∧ getS (layN cs first x.1) x.2.1 = some x.2.2 := by
  unfold entries
  rw [List.mem_flatMap]
  constructor
  · rintro ⟨i, hi, h⟩
    obtain ⟨p, hp, e⟩ := List.mem_map.mp h
    subst e
    exact ⟨List.mem_range.mp hi, getS_of_mem (layN_nd cs first i) hp⟩
  · rintro ⟨h1, h2⟩
    exact ⟨x.1, List.mem_range.mpr h1, List.mem_map.mpr ⟨(x.2.1, x.2.2), getS_some_mem h2, rfl⟩⟩
/-- the reachable states -/
def Mc.reach (m : Mc) (s : Int) : Prop := ∃ i, i ≤ m.most ∧ s ∈ (layN m.cs m.first i).map (·.1)
theorem reach_iff {m : Mc} {s : Int} : m.reach s ↔ ∃ i r, i ≤ m.most ∧ getS (layN m.cs m.first i) s = some r := by
  constructor
  · rintro ⟨i, hi, h⟩
    cases e : getS (layN m.cs m.first i) s with
    | none => exact absurd h (getS_none_iff.mp e)
    | some r => exact ⟨i, r, hi, e⟩
  · rintro ⟨i, r, hi, h⟩
    exact ⟨i, hi, List.mem_map.mpr ⟨(s, r), getS_some_mem h, rfl⟩⟩
theorem first_reach (m : Mc) : m.reach m.first := ⟨0, Nat.zero_le _, by simp [layN]⟩

/-- LAW 1: there is a least run just where a reachable state breaks the invariant -/
theorem law_none (m : Mc) (inv : Cd) : m.least inv = none ↔ ∀ s, m.reach s → inv.ok s = true := by
  have B := least_bst m inv
  constructor
  · intro h s hs
    obtain ⟨i, r, hi, hg⟩ := reach_iff.mp hs
    cases e : inv.ok s with
    | true => rfl
    | false =>
      obtain ⟨q, hq, _⟩ := B.low (i, s, r) (mem_entries.mpr ⟨by show i < m.most + 1; omega, hg⟩) e
      rw [h] at hq
      cases hq
  · intro h
    cases e : m.least inv with
    | none => rfl
    | some r =>
      obtain ⟨x, hx, h1, _⟩ := B.from_ r e
      obtain ⟨h2, h3⟩ := mem_entries.mp hx
      have := h x.2.1 (reach_iff.mpr ⟨x.1, x.2.2, by omega, h3⟩)
      rw [this] at h1
      cases h1
/-- LAW 2: the least run fails -/
theorem law_fails (m : Mc) (inv : Cd) {r : List Int} (h : m.least inv = some r) : m.fails inv r = true := by
  have B := least_bst m inv
  obtain ⟨⟨i, s, q⟩, hx, h1, h2⟩ := B.from_ r h
  obtain ⟨h3, h4⟩ := mem_entries.mp hx
  have h3' : i < m.most + 1 := h3
  have h1' : inv.ok s = false := h1
  have L := lay_leads m.cs m.first i s q h4
  obtain ⟨l1, l2⟩ := L
  have run_eq : ∃ ts : List (Nat × Int × Int), m.run r = some (ts, r.length) ∧ ts.length = i ∧ (i = 0 → s = m.first) ∧ ∀ t, ts.getLast? = some t → t.2.2 = s := by
    by_cases c : i < m.most
    · have e : r = q ++ [0] := by rw [h2]; show ender m.most i q = _; unfold ender; rw [if_pos c]
      obtain ⟨ts, t1, t2, t3, t4⟩ := l2 [0] (m.most - i)
      refine ⟨ts, ?_, t1, t2, t3⟩
      unfold Mc.run
      have e1 : i + (m.most - i) = m.most := by omega
      rw [e1] at t4
      rw [e, t4]
      have e2 : m.most - i = (m.most - i - 1) + 1 := by omega
      have hst : step m.cs (q ++ [0]) (3 * i) s = .fin (3 * i + 1) := step_zero (by
        have := getElem?_app_at q [0] 0
        rw [l1] at this
        simpa using this)
      have e3 : run m.cs (q ++ [0]) (m.most - i) (3 * i) s [] = some ([], 3 * i + 1) := by
        rw [e2]
        unfold run
        rw [hst]
      rw [e3]
      show some (ts ++ [], 3 * i + 1) = _
      rw [List.append_nil, List.length_append, l1]
      rfl
    · have ei : i = m.most := by omega
      have e : r = q := by rw [h2]; show ender m.most i q = _; unfold ender; rw [if_neg c]
      obtain ⟨ts, t1, t2, t3, t4⟩ := l2 [] 0
      refine ⟨ts, ?_, t1, t2, t3⟩
      unfold Mc.run
      rw [List.append_nil] at t4
      have e1 : i + 0 = m.most := by omega
      rw [e1] at t4
      rw [e, t4]
      show some (ts ++ [], 3 * i) = _
      rw [List.append_nil, l1]
  obtain ⟨ts, t0, t1, t2, t3⟩ := run_eq
  unfold Mc.fails
  rw [t0]
  show (if r.length < r.length then false else _) = true
  rw [if_neg (Nat.lt_irrefl _)]
  have hm : s ∈ m.first :: ts.map fun t => t.2.2 := by
    cases hi : i with
    | zero => rw [t2 hi]; exact List.mem_cons_self
    | succ j =>
      have hne : ts ≠ [] := by intro z; rw [z] at t1; simp at t1; omega
      have := t3 _ (List.getLast?_eq_some_getLast hne)
      rw [← this]
      exact List.mem_cons_of_mem _ (List.mem_map.mpr ⟨_, List.getLast_mem hne, rfl⟩)
  have : ((m.first :: ts.map fun t => t.2.2).all fun s => inv.ok s) = false := by
    rw [List.all_eq_false]
    exact ⟨s, hm, by rw [h1']; exact Bool.false_ne_true⟩
  rw [this]
  rfl
/-- LAW 3: a run's states are reachable -/
theorem law_states (m : Mc) {row : List Int} {ts : List (Nat × Int × Int)} {used : Nat} (h : m.run row = some (ts, used)) : ∀ t ∈ ts, m.reach t.2.2 := by
  intro t ht
  obtain ⟨more, e, _, g⟩ := run_states (cs := m.cs) (row := row) m.first m.most 0 m.first [] [] ts used (by show getS [(m.first, [])] m.first = _; rw [getS_cons, if_pos rfl]) (by simpa using leq_refl []) (Nat.zero_le _) h
  rw [List.nil_append] at e
  subst e
  obtain ⟨j, hj, e⟩ := List.getElem_of_mem ht
  obtain ⟨a1, _, ⟨q, a2, _⟩, _⟩ := g j t (by rw [List.getElem?_eq_getElem hj, e])
  exact reach_iff.mpr ⟨0 + j + 1, q, by omega, a2⟩
/-- LAW 4: no failing row is ahead of the least run -/
theorem law_least (m : Mc) (inv : Cd) {row : List Int} (h : m.fails inv row = true) : ∃ r, m.least inv = some r ∧ less row r = false := by
  have B := least_bst m inv
  unfold Mc.fails at h
  cases hr : m.run row with
  | none => rw [hr] at h; cases h
  | some z =>
    obtain ⟨ts, used⟩ := z
    rw [hr] at h
    have h' : (if used < row.length then false else !((m.first :: ts.map fun t => t.2.2).all fun s => inv.ok s)) = true := h
    by_cases c : used < row.length
    · rw [if_pos c] at h'; cases h'
    · rw [if_neg c] at h'
      have hb : ((m.first :: ts.map fun t => t.2.2).all fun s => inv.ok s) = false := by
        cases z : ((m.first :: ts.map fun t => t.2.2).all fun s => inv.ok s) with
        | false => rfl
        | true => rw [z] at h'; cases h'
      obtain ⟨more, e, hu, g⟩ := run_states (cs := m.cs) (row := row) m.first m.most 0 m.first [] [] ts used (by show getS [(m.first, [])] m.first = _; rw [getS_cons, if_pos rfl]) (by simpa using leq_refl []) (Nat.zero_le _) hr
      rw [List.nil_append] at e
      subst e
      have hul : used = row.length := by omega
      rw [List.all_eq_false] at hb
      obtain ⟨s, hs, hf⟩ := hb
      have hf' : inv.ok s = false := by simpa using hf
      rcases List.mem_cons.mp hs with e | hs
      · -- the first state
        subst e
        obtain ⟨r, r1, r2⟩ := B.low (0, m.first, []) (mem_entries.mpr ⟨Nat.succ_pos _, by show getS [(m.first, [])] m.first = _; rw [getS_cons, if_pos rfl]⟩) hf'
        refine ⟨r, r1, leq_trans r2 ?_⟩
        show leq (ender m.most 0 []) row
        unfold ender
        by_cases c2 : 0 < m.most
        · rw [if_pos c2]
          unfold Mc.run at hr
          have e2 : m.most = (m.most - 1) + 1 := by omega
          rw [e2] at hr
          unfold run at hr
          cases hst : step m.cs row 0 m.first with
          | bad => rw [hst] at hr; cases hr
          | fin p =>
            obtain ⟨a1, a2⟩ := step_fin hst
            rw [hst] at hr
            injection hr with hr
            injection hr with hr1 hr2
            have el : row.length = 1 := by omega
            match row, el, a1 with
            | [x], _, a1 =>
              have : x = 0 := by simpa using a1
              subst this
              exact leq_refl _
          | go a s' nm p =>
            obtain ⟨k, cm, d, a1, a2, a3, a4, _⟩ := step_go hst
            have hlt := (List.getElem?_eq_some_iff.mp a4).1
            exact leq_of_len (by simp; omega)
        · rw [if_neg c2]
          cases row with
          | nil => exact leq_refl _
          | cons x xs => exact leq_of_len (by simp)
      · obtain ⟨t, ht, es⟩ := List.mem_map.mp hs
        subst es
        obtain ⟨j, hj, ej⟩ := List.getElem_of_mem ht
        obtain ⟨b1, b2, ⟨q, b3, b4⟩, b5⟩ := g j t (by rw [List.getElem?_eq_getElem hj, ej])
        rw [Nat.zero_add] at b2 b3 b4 b5
        obtain ⟨r, r1, r2⟩ := B.low (j + 1, t.2.2, q) (mem_entries.mpr ⟨by show j + 1 < m.most + 1; omega, b3⟩) hf'
        refine ⟨r, r1, leq_trans r2 ?_⟩
        show leq (ender m.most (j + 1) q) row
        unfold ender
        by_cases c2 : j + 1 < m.most
        · rw [if_pos c2]
          have hgt : 3 * (j + 1) < row.length := by
            have : ¬ used = 3 * (j + 1) := fun z => by have := b5 z; omega
            omega
          by_cases c3 : row.length = 3 * (j + 1) + 1
          · -- one choice behind: it is 0
            have lead := b4
            have hq : leq (q ++ [0]) (row.take (3 * (j + 1)) ++ [0]) := leq_app [0] b4
            refine leq_trans hq ?_
            have et : row = row.take (3 * (j + 1)) ++ [row[3 * (j + 1)]'hgt] := by
              have := List.take_append_drop (3 * (j + 1)) row
              conv => lhs; rw [← this]
              congr 1
              rw [List.drop_eq_getElem_cons hgt]
              rw [List.drop_eq_nil_of_le (by omega)]
            have hz : 0 ≤ row[3 * (j + 1)]'hgt := by
              -- the run looked at it
              have key : ∀ (n i : Nat) (s : Int) (acc ts : List (Nat × Int × Int)) (used : Nat), run m.cs row n (3 * i) s acc = some (ts, used) → used = row.length → 3 * i ≤ 3 * (j + 1) → 3 * (j + 1) < used → 0 ≤ row[3 * (j + 1)]'hgt := by
                intro n
                induction n with
                | zero =>
                  intro i s acc ts used h1 h2 h3 h4
                  unfold run at h1
                  injection h1 with h1
                  injection h1 with h5 h6
                  omega
                | succ n ih =>
                  intro i s acc ts used h1 h2 h3 h4
                  unfold run at h1
                  cases hst : step m.cs row (3 * i) s with
                  | bad => rw [hst] at h1; cases h1
                  | fin p =>
                    rw [hst] at h1
                    obtain ⟨a1, a2⟩ := step_fin hst
                    injection h1 with h1
                    injection h1 with h5 h6
                    have e : 3 * i = 3 * (j + 1) := by omega
                    rw [e, List.getElem?_eq_getElem hgt] at a1
                    have := Option.some.inj a1
                    omega
                  | go a s' nm p =>
                    rw [hst] at h1
                    obtain ⟨k, cm, d, a1, a2, a3, a4, _, _, _, a8⟩ := step_go hst
                    have hlt := (List.getElem?_eq_some_iff.mp a4).1
                    have e8 : p = 3 * (i + 1) := by omega
                    rw [e8] at h1
                    exact ih (i + 1) _ _ _ _ h1 h2 (by omega) h4
              exact key m.most 0 m.first [] _ used hr hul (by omega) (by omega)
            conv => rhs; rw [et]
            unfold leq less
            rw [if_pos (by simp only [List.length_append, List.length_take, List.length_singleton])]
            have lx : ∀ (p : List Int) (x : Int), 0 ≤ x → lexLt (p ++ [x]) (p ++ [0]) = false := by
              intro p
              induction p with
              | nil =>
                intro x hx
                show lexLt [x] [0] = false
                unfold lexLt
                by_cases c : x = 0
                · rw [if_pos c]; rfl
                · rw [if_neg c]; exact decide_eq_false (by omega)
              | cons y p ih =>
                intro x hx
                rw [List.cons_append, List.cons_append]
                unfold lexLt
                rw [if_pos rfl]
                exact ih x hx
            exact lx _ _ hz
          · have l1 := (lay_leads m.cs m.first (j + 1) t.2.2 q b3).1
            exact leq_of_len (by rw [List.length_append, l1]; simp; omega)
        · rw [if_neg c2]
          have l1 := (lay_leads m.cs m.first (j + 1) t.2.2 q b3).1
          by_cases c3 : row.length = 3 * (j + 1)
          · rw [← c3, List.take_length] at b4
            exact b4
          · exact leq_of_len (by omega)

/-! ### sizes -/
theorem nd_short : ∀ (n : Nat) (lo : Int) (l : List Int), l.Nodup → (∀ x ∈ l, lo ≤ x ∧ x < lo + n) → l.length ≤ n
  | 0, lo, l, _, h => by
    cases l with
    | nil => exact Nat.le_refl _
    | cons x xs => have := h x List.mem_cons_self; omega
  | n + 1, lo, l, nd, h => by
    have ih := nd_short n lo (l.filter fun x => decide (x ≠ lo + n)) (nd.filter _) (fun x hx => by
      obtain ⟨h1, h2⟩ := List.mem_filter.mp hx
      have := h x h1
      have h3 : x ≠ lo + n := of_decide_eq_true h2
      omega)
    have key : ∀ l : List Int, l.Nodup → l.length ≤ (l.filter fun x => decide (x ≠ lo + n)).length + 1 := by
      intro l
      induction l with
      | nil => intro _; simp
      | cons x xs ihl =>
        intro hnd
        rw [List.nodup_cons] at hnd
        by_cases c : x = lo + n
        · have : (xs.filter fun x => decide (x ≠ lo + n)) = xs := List.filter_eq_self.mpr fun y hy => decide_eq_true fun z => hnd.1 (by rw [c, ← z]; exact hy)
          rw [List.filter_cons]
          simp only [c, ne_eq, not_true_eq_false, decide_false, Bool.false_eq_true, if_false]
          simp only [ne_eq] at this
          rw [this]
          simp
        · rw [List.filter_cons]
          have := ihl hnd.2
          simp only [ne_eq, c, not_false_eq_true, decide_true, if_true, List.length_cons]
          simp only [ne_eq] at this
          omega
    have := key l nd
    omega
/-- the arguments of a drawer lie between -3 and 3 -/
def Gn.small (g : Gn) : Prop := -3 ≤ g.lo ∧ g.hi ≤ 3
theorem val_small {g : Gn} (h : g.small) {d a : Int} (hv : g.val d = some a) : -3 ≤ a ∧ a ≤ 3 := by
  unfold Gn.val at hv
  obtain ⟨h1, h2⟩ := h
  split at hv
  · split at hv
    · have := Option.some.inj hv
      omega
    · cases hv
  · cases hv
theorem lay_small {cs : List Cm} {first : Int} (hf : -2 ≤ first ∧ first ≤ 2) (hc : ∀ c ∈ cs, c.gn.small) : ∀ (i : Nat) (s : Int) (r : List Int), getS (layN cs first i) s = some r → -(2 + 3 * (i : Int)) ≤ s ∧ s ≤ 2 + 3 * (i : Int)
  | 0, s, r, h => by
    have h2 : getS [(first, ([] : List Int))] s = some r := h
    rw [getS_cons] at h2
    by_cases e : first = s
    · omega
    · rw [if_neg e] at h2; cases h2
  | i + 1, s, r, h => by
    obtain ⟨p, hp, hm⟩ := (further_spec cs (layN cs first i)).2.1 s r h
    have ih := lay_small hf hc i p.1 p.2 (getS_of_mem (layN_nd cs first i) hp)
    obtain ⟨k, c, a, e, h1, h2, h3, h4⟩ := mem_stepsFrom.mp hm
    obtain ⟨d, h5, h6⟩ := mem_tab.mp h2
    have hcm : c ∈ cs := (List.mem_filter.mp (List.mem_of_getElem? h1)).1
    have ha := val_small (hc c hcm) h6
    rw [h3]
    cases c.ef with
    | add => show _ ≤ p.1 + a ∧ p.1 + a ≤ _; omega
    | take => show _ ≤ p.1 - a ∧ p.1 - a ≤ _; omega
    | set => show _ ≤ a ∧ a ≤ _; omega
theorem reach_small {m : Mc} (hf : -2 ≤ m.first ∧ m.first ≤ 2) (hc : ∀ c ∈ m.cs, c.gn.small) (hm : m.most ≤ 4) {s : Int} (h : m.reach s) : -14 ≤ s ∧ s < -14 + (29 : Nat) := by
  obtain ⟨i, r, hi, hg⟩ := reach_iff.mp h
  have := lay_small hf hc i s r hg
  omega
theorem lay_length {cs : List Cm} {first : Int} (hf : -2 ≤ first ∧ first ≤ 2) (hc : ∀ c ∈ cs, c.gn.small) {i : Nat} (hi : i ≤ 4) : (layN cs first i).length ≤ 29 := by
  have nd := layN_nd cs first i
  have := nd_short 29 (-14) _ nd fun x hx => by
    obtain ⟨p, hp, e⟩ := List.mem_map.mp hx
    have := lay_small hf hc i p.1 p.2 (getS_of_mem nd hp)
    omega
  rw [List.length_map] at this
  exact this
end CRM
set_option Elab.async false
set_option linter.all false
set_option maxRecDepth 100000
/-! Choicerows: the text by places, its defs as data. -/
namespace Cr
open PySem PySem.Spec PyProof.Rows L2
def top (i : Nat) : Stmt := PySem.Challenge.pw_choicerows_k58_whole_no_run_fails_ahead.main.body.getD i (.Pass ⟨0, 0, 0, 0⟩)
abbrev sHolds : Stmt := top 7
abbrev sParts : Stmt := top 14
abbrev sDrawF : Stmt := top 18
abbrev sInOrder : Stmt := top 20
abbrev sPutTog : Stmt := top 21
abbrev sChkMany : Stmt := top 25
abbrev sTriples : Stmt := top 30
abbrev sTableAt : Stmt := top 31
abbrev sTable : Stmt := top 32
abbrev sAllowed : Stmt := top 34
abbrev sChoiceAt : Stmt := top 37
abbrev sArgAt : Stmt := top 38
abbrev sOneStep : Stmt := top 39
abbrev sRunM : Stmt := top 40
abbrev sDoesFail : Stmt := top 41
abbrev sStepsFrom : Stmt := top 42
abbrev sFurther : Stmt := top 43
abbrev sLayers : Stmt := top 44
abbrev sLeastRun : Stmt := top 45
abbrev sReach : Stmt := top 46
abbrev sIsLess : Stmt := top 48
abbrev sLCell : Stmt := top 50
abbrev sLDraw : Stmt := top 51
abbrev sLAbout : Stmt := top 52
abbrev sLComms : Stmt := top 53
abbrev sLMach : Stmt := top 54
abbrev sLaw : Stmt := top 55
abbrev sBehind : Stmt := top 35
abbrev sDInit : Stmt := inClass (top 17) 0
abbrev sDChoice : Stmt := inClass (top 17) 1
abbrev sDRefuse : Stmt := inClass (top 17) 2
abbrev sDKept : Stmt := inClass (top 17) 5
abbrev sDValue : Stmt := inClass (top 17) 6
abbrev sStopInit : Stmt := inClass (top 16) 0
def dHolds : He.DefD := ⟨("holds", none), "holds", "holds", defArgs sHolds, defBody sHolds, defScope sHolds, [], []⟩
def dParts : He.DefD := ⟨("parts_of", none), "parts_of", "parts_of", defArgs sParts, defBody sParts, defScope sParts, [], []⟩
def dDrawF : He.DefD := ⟨("draw", none), "draw", "draw", defArgs sDrawF, defBody sDrawF, defScope sDrawF, [], []⟩
def dInOrder : He.DefD := ⟨("in_order", none), "in_order", "in_order", defArgs sInOrder, defBody sInOrder, defScope sInOrder, [], []⟩
def dPutTog : He.DefD := ⟨("put_together", none), "put_together", "put_together", defArgs sPutTog, defBody sPutTog, defScope sPutTog, [], []⟩
def dChkMany : He.DefD := ⟨("check_many", none), "check_many", "check_many", defArgs sChkMany, defBody sChkMany, defScope sChkMany, [], []⟩
def dTriples : He.DefD := ⟨("triples_of", none), "triples_of", "triples_of", defArgs sTriples, defBody sTriples, defScope sTriples, [], []⟩
def dTableAt : He.DefD := ⟨("table_at", none), "table_at", "table_at", defArgs sTableAt, defBody sTableAt, defScope sTableAt, [], []⟩
def dTable : He.DefD := ⟨("table", none), "table", "table", defArgs sTable, defBody sTable, defScope sTable, [], []⟩
def dAllowed : He.DefD := ⟨("allowed", none), "allowed", "allowed", defArgs sAllowed, defBody sAllowed, defScope sAllowed, [], []⟩
def dChoiceAt : He.DefD := ⟨("choice_at", none), "choice_at", "choice_at", defArgs sChoiceAt, defBody sChoiceAt, defScope sChoiceAt, [], []⟩
def dArgAt : He.DefD := ⟨("argument_at", none), "argument_at", "argument_at", defArgs sArgAt, defBody sArgAt, defScope sArgAt, [], []⟩
def dOneStep : He.DefD := ⟨("one_step", none), "one_step", "one_step", defArgs sOneStep, defBody sOneStep, defScope sOneStep, [], []⟩
def dRunM : He.DefD := ⟨("run_machine", none), "run_machine", "run_machine", defArgs sRunM, defBody sRunM, defScope sRunM, [], []⟩
def dDoesFail : He.DefD := ⟨("does_fail", none), "does_fail", "does_fail", defArgs sDoesFail, defBody sDoesFail, defScope sDoesFail, [], []⟩
def dStepsFrom : He.DefD := ⟨("steps_from", none), "steps_from", "steps_from", defArgs sStepsFrom, defBody sStepsFrom, defScope sStepsFrom, [], []⟩
def dFurther : He.DefD := ⟨("further", none), "further", "further", defArgs sFurther, defBody sFurther, defScope sFurther, [], []⟩
def dLayers : He.DefD := ⟨("layers", none), "layers", "layers", defArgs sLayers, defBody sLayers, defScope sLayers, [], []⟩
def dLeastRun : He.DefD := ⟨("least_run", none), "least_run", "least_run", defArgs sLeastRun, defBody sLeastRun, defScope sLeastRun, [], []⟩
def dReach : He.DefD := ⟨("reachable", none), "reachable", "reachable", defArgs sReach, defBody sReach, defScope sReach, [], []⟩
def dIsLess : He.DefD := ⟨("is_less", none), "is_less", "is_less", defArgs sIsLess, defBody sIsLess, defScope sIsLess, [], []⟩
def dLCell : He.DefD := ⟨("_law_cell", none), "_law_cell", "_law_cell", defArgs sLCell, defBody sLCell, defScope sLCell, [], []⟩
def dLDraw : He.DefD := ⟨("_law_draw", none), "_law_draw", "_law_draw", defArgs sLDraw, defBody sLDraw, defScope sLDraw, [], []⟩
def dLAbout : He.DefD := ⟨("_law_about", none), "_law_about", "_law_about", defArgs sLAbout, defBody sLAbout, defScope sLAbout, [], []⟩
def dLComms : He.DefD := ⟨("_law_commands", none), "_law_commands", "_law_commands", defArgs sLComms, defBody sLComms, defScope sLComms, [], []⟩
def dLMach : He.DefD := ⟨("_law_machine", none), "_law_machine", "_law_machine", defArgs sLMach, defBody sLMach, defScope sLMach, [], []⟩
def dLaw : He.DefD := ⟨("law", none), "law", "law", defArgs sLaw, defBody sLaw, defScope sLaw, [], []⟩
def dBehind : He.DefD := ⟨("behind_machines", none), "behind", "behind", defArgs sBehind, defBody sBehind, defScope sBehind, [], []⟩
def dDInit : He.DefD := ⟨("Draw", some "__init__"), "__init__", "Draw.__init__", defArgs sDInit, defBody sDInit, defScope sDInit, [], []⟩
def dDChoice : He.DefD := ⟨("Draw", some "choice"), "choice", "Draw.choice", defArgs sDChoice, defBody sDChoice, defScope sDChoice, [], []⟩
def dDRefuse : He.DefD := ⟨("Draw", some "refuse"), "refuse", "Draw.refuse", defArgs sDRefuse, defBody sDRefuse, defScope sDRefuse, [], []⟩
def dDKept : He.DefD := ⟨("Draw", some "kept"), "kept", "Draw.kept", defArgs sDKept, defBody sDKept, defScope sDKept, [], []⟩
def dDValue : He.DefD := ⟨("Draw", some "value"), "value", "Draw.value", defArgs sDValue, defBody sDValue, defScope sDValue, [], []⟩
def fn : List He.DefD := [dHolds, dParts, dDrawF, dInOrder, dPutTog, dChkMany, dTriples, dTableAt, dTable, dAllowed, dChoiceAt, dArgAt, dOneStep, dRunM, dDoesFail, dStepsFrom, dFurther, dLayers, dLeastRun, dReach, dIsLess, dLCell, dLDraw, dLAbout, dLComms, dLMach, dLaw, dBehind, dDInit, dDChoice, dDRefuse, dDKept, dDValue]
def fa1 : List He.Fa := [.glo "holds", .glo "parts_of", .glo "draw", .glo "in_order", .glo "put_together", .glo "check_many", .glo "triples_of", .glo "table_at", .glo "table", .glo "allowed", .glo "choice_at", .glo "argument_at", .glo "one_step", .glo "run_machine", .glo "does_fail", .glo "steps_from", .glo "further", .glo "layers", .glo "least_run", .glo "reachable", .glo "is_less", .glo "_law_cell", .glo "_law_draw", .glo "_law_about", .glo "_law_commands", .glo "_law_machine", .glo "law", .glo "behind_machines", .glo "Stop", .glo "Draw"]
def fa2 : List He.Fa := [.free "len", .free "range", .free "sorted", .free "min", .free "tuple", .free "list", .free "all", .free "super", .int "VALUES" 2000, .int "STATES" 2000, .cls "Draw", .noat "Draw" "row", .noat "Draw" "used", .meth "Draw" "choice", .meth "Draw" "refuse", .meth "Draw" "kept", .meth "Draw" "value", .mkr "Draw"]
def fa : List He.Fa := fa1 ++ fa2
def tf : List He.Defn := [("in_order", none), ("does_fail", none)]
end Cr
set_option Elab.async false
set_option linter.all false
set_option maxRecDepth 100000
set_option maxHeartbeats 0
/-! Choicerows: the head, run once; what it tells. -/
namespace Cr
open PySem PySem.Spec PyProof.Rows L2
abbrev R : PySem.W.OpenRow := PySem.W.OpenLaw.row PySem.Challenge.rw_choicerows_k58_whole_no_run_fails_ahead
/-- Stop.__init__, as the top leaves it -/
abbrev StopD : Type := Option (Str × Str × Arguments × FuncBody × Scope × Addr × Addr)
def stopD (K : PySem.W.Frag) : StopD := match K.lookup (He.ma K (He.ga K "Stop") "__init__") with
  | some ⟨_, _, .func fd, _⟩ => some (fd.name, fd.qualname, fd.params, fd.body, fd.scope, fd.globals, fd.builtins)
  | _ => none
def stopV : StopD := some ("__init__", "Stop.__init__", defArgs sStopInit, .stmts (defBody sStopInit), defScope sStopInit, mainGlobals, builtinsNs)
def stopClsB (K : PySem.W.Frag) : Bool := match K.lookup (He.ga K "Stop") with
  | some ⟨.type t, _, .cls cd, sl⟩ => decide (t = "type") && (match cd.mro, sl.toList with
    | .ref C' :: bm, [_, _, _, _, some (.builtin n), _] => decide (C' = He.ga K "Stop") && (decide (n = "Exception.__new__") && (!cd.hasDel && (cd.hasDict && decide (bm = PySem.ESX.exTail))))
    | _, _ => false)
  | _ => false
def stopFnB (K : PySem.W.Frag) : Bool := match K.lookup (He.ma K (He.ga K "Stop") "__init__") with
  | some ⟨_, _, .func fd, _⟩ => (match fd.defaults with
      | .none => true
      | _ => false) && (PySem.W.codeIn K fd.code "Stop.__init__" && ((match fd.code with
      | .ref cda => (match K.lookup cda with
        | some ⟨_, _, .fields vs, _⟩ => (match (vs[2]? : Option Value) with
          | some (.str file _) => ((R.prog.main.file : Str) == file)
          | _ => false)
        | _ => false)
      | _ => false) && (match fd.closure with
      | [(x, cc)] => decide (x = "__class__") && (match K.lookup cc with
        | some ⟨_, _, .cell (some (.ref D)), _⟩ => decide (D = He.ga K "Stop")
        | _ => false)
      | _ => false)))
  | _ => false
def stopFs (K : PySem.W.Frag) : List Bool :=
  [He.eqO (PySem.W.findIn K (.ref (He.ga K "Stop")) "__setattr__") (some (some (.builtin "object.__setattr__"))),
   xfB K (He.ga K "Stop"),
   decide (PySem.W.typeIn K (.ref (He.ga K "Stop")) = some (.type "type")),
   PySem.W.keepIn K (.ref (He.ga K "Stop")),
   He.eqO (PySem.W.findIn K (.ref (He.ga K "Stop")) "__init__") (some (some (.ref (He.ma K (He.ga K "Stop") "__init__")))),
   decide (PySem.W.typeIn K (.ref (He.ma K (He.ga K "Stop") "__init__")) = some (.type "function")),
   He.eqO (PySem.W.findIn K (.ref (He.ga K "Stop")) "outcome") (some none),
   decide (PySem.W.exmOne K (.ref (He.ga K "Stop")) (.ref (He.ga K "Stop")) = some true),
   He.eqO (PySem.W.nsIn K cStatics "thirdparty.any") (some none),
   PySem.W.isClsIn K (He.ga K "Stop")]
def apartB (K : PySem.W.Frag) : Bool := decide ((He.cT K ("in_order", none)).2 ≠ (He.cT K ("does_fail", none)).2)
def exB (K : PySem.W.Frag) : Bool := apartB K && (stopClsB K && (stopFnB K && (stopFs K).all id))
/-! ### the Hook -/
def asC (g : Addr → Option Obj) : List Addr := cStatics :: He.asD g 5
abbrev AlC : Type := (He.AlT × Bool) × StopD
def obsC (g : Addr → Option Obj) : AlC := ((He.obsT fa fn [] (He.frT g (asC g)), exB (He.frT g (asC g)) && He.tabsB g tf (He.frT g (asC g))), stopD (He.frT g (asC g)))
def valC (w : World) : AlC := ((He.valT fn [] w, true), stopV)
structure SaysC (w : World) (h : Heap) (K : PySem.W.Frag) : Prop where
  x : He.SaysX fa fn [] tf exB w h K
  s : stopD K = stopV
theorem saysC_of {w : World} {h : Heap} (e : obsC h.get? = valC w) : SaysC w h (He.frT h.get? (asC h.get?)) := by
  have e0 := congrArg (fun z : AlC => z.1) e
  have e1 : He.obsT fa fn [] (He.frT h.get? (asC h.get?)) = He.valT fn [] w := congrArg (fun z : He.AlT × Bool => z.1) e0
  have e2 : (exB (He.frT h.get? (asC h.get?)) && He.tabsB h.get? tf (He.frT h.get? (asC h.get?))) = true := congrArg (fun z : He.AlT × Bool => z.2) e0
  obtain ⟨h1, h2⟩ := He.ba e2
  have key : ∀ p ∈ tf, PySem.W.codeHdIn (He.frT h.get? (asC h.get?)) (He.cT (He.frT h.get? (asC h.get?)) p).1 (He.cT (He.frT h.get? (asC h.get?)) p).2 = true ∧ ∃ o, h.get? (He.cT (He.frT h.get? (asC h.get?)) p).2 = some o ∧ He.emptyTab o = true := fun p hp => by
    obtain ⟨h3, h4⟩ := He.ba (List.all_eq_true.mp h2 p hp)
    refine ⟨h3, ?_⟩
    cases q : h.get? (He.cT (He.frT h.get? (asC h.get?)) p).2 with
    | none => rw [q] at h4; cases h4
    | some o => rw [q] at h4; exact ⟨o, rfl, h4⟩
  refine ⟨⟨e1, h1, fun p hp => (key p hp).1, fun p hp => ?_, fun p hp => ?_⟩, congrArg (fun z : AlC => z.2) e⟩
  · obtain ⟨_, o, q, z⟩ := key p hp
    exact He.frT_none q z
  · obtain ⟨_, o, q, z⟩ := key p hp
    rw [q, He.emptyTab_eq z]
def hook : PySem.W.Hook where
  α := AlC
  obs := fun s => obsC s.heap.get?
  val := fun w => valC w
  says := fun w h => ∃ K : PySem.W.Frag, K.In h ∧ SaysC w h K
  of := fun _ _ e => ⟨_, He.frT_in, saysC_of e⟩
  keeps := fun _ _ _ ⟨K, hK, c⟩ k => ⟨K, PySem.W.Frag.In.keeps hK k, ⟨⟨c.x.t, c.x.more, c.x.hd, c.x.out, fun p hp => k _ _ (c.x.empty p hp)⟩, c.s⟩⟩
def ob (s : PySem.W.SharedT) : AlC := obsC (HandSHeadRun.getT s)
theorem ob_eq (s : PySem.W.SharedT) : ob s = hook.obs s.abs := by
  have e : HandSHeadRun.getT s = s.abs.heap.get? := funext (HandSHeadRun.getT_eq s)
  unfold ob
  rw [e] <;> rfl
def loose1 : List PySem.Str := ["LONG", "VALUES", "STATES", "__name__", "rises", "is_different", "holds_list", "holds", "ChoiceError", "GeneratorError", "MachineError", "turn", "parts_of", "Stop", "Draw", "draw", "in_order", "put_together", "multiplied", "behind", "behind_tables", "check_many", "power", "table_of_tuple", "table_of_list", "table_of_repeat"]
def loose2 : List PySem.Str := ["triples_of", "table_at", "table", "allowed", "behind_machines", "choice_at", "argument_at", "one_step", "run_machine", "does_fail", "steps_from", "further", "layers", "least_run", "reachable", "is_less", "_law_cell", "_law_draw", "_law_about", "_law_commands", "_law_machine"]
def loose : List PySem.Str := loose1 ++ loose2
theorem run (w : World) : HandSHeadRun.RunEq R (PySem.W.view R.prog [55]) hook ob 4000 loose w := by
  intro os
  kernel_rfl
end Cr
set_option Elab.async false
set_option linter.all false
set_option maxRecDepth 100000
set_option maxHeartbeats 4000000
/-! Choicerows: what the walk says of the abstract heap. -/
namespace Cr
open PySem PySem.Spec PyProof.Rows L2
/-! ### a heap that goes on from another: all stays but the code tables, which may grow -/
def Nt (o : HO) : Prop := ∀ ps, o ≠ .tbl ps
theorem nt_tup {xs : List V} : Nt (.tup xs) := fun ps z => by cases z
theorem nt_lst {xs : List V} : Nt (.lst xs) := fun ps z => by cases z
theorem nt_dK {kvs : List (Key × V)} : Nt (.dK kvs) := fun ps z => by cases z
theorem nt_frz {o : Obj} {u : HO} : Nt (.frz o u) := fun ps z => by cases z
theorem nt_ins {C dx : Addr} {fs : List (Str × V)} : Nt (.ins C dx fs) := fun ps z => by cases z
theorem nt_own {x : Addr} : Nt (.own x) := fun ps z => by cases z
theorem nt_xd {fs : List (Str × V)} : Nt (.xd fs) := fun ps z => by cases z
theorem nt_ext {φ : Heap → Prop} : Nt (.ext φ) := fun ps z => by cases z
/-- the place of the table whose code objects' names are told -/
class Tb where
  p : Addr
def lamQ : Str := (("in_order" : Str) ++ ".<locals>.") ++ "<lambda>"
section
variable [Tb]
structure Ext (H H' : Hp) : Prop where
  keep : ∀ b o, H b = some o → Nt o → H' b = some o
  tab : ∀ P, GxR.TabG H P → GxR.TabG H' P
  tabS : LamX.TabS H Tb.p lamQ → LamX.TabS H' Tb.p lamQ
  dom : ∀ b, H' b = none → H b = none
theorem Ext.refl (H : Hp) : Ext H H := ⟨fun _ _ h _ => h, fun _ h => h, fun h => h, fun _ h => h⟩
theorem Ext.trans {H H1 H2 : Hp} (a : Ext H H1) (b : Ext H1 H2) : Ext H H2 :=
  ⟨fun c o h n => b.keep c o (a.keep c o h n) n, fun P h => b.tab P (a.tab P h), fun h => b.tabS (a.tabS h), fun c h => a.dom c (b.dom c h)⟩
theorem tabS_of {H H' : Hp} {P : Addr} {q : Str} (h : LamX.TabS H P q) (k : ∀ ps, H P = some (.tbl ps) → H' P = some (.tbl ps)) (e : ∀ c φ, H c = some (.ext φ) → H' c = some (.ext φ)) : LamX.TabS H' P q := by
  obtain ⟨ps, h1, h2, h3⟩ := h
  refine ⟨ps, k ps h1, h2, fun pos cv hc => ?_⟩
  obtain ⟨c, e1, e2⟩ := h3 pos cv hc
  exact ⟨c, e1, e _ _ e2⟩
/-- a place that was free ahead is written -/
theorem Ext.put {H H1 : Hp} (e : Ext H H1) {p : Addr} {o : HO} (hp : H p = none) (hx : ∀ φ, H1 p ≠ some (.ext φ)) : Ext H (upd H1 p o) := by
  refine ⟨fun b u h n => ?_, fun P h => ?_, fun h => ?_, fun b h => ?_⟩
  · rw [upd_ne (ne_of_none h hp)]
    exact e.keep b u h n
  · obtain ⟨ps, h1, h2⟩ := e.tab P h
    obtain ⟨qs, g1, _⟩ := h
    exact ⟨ps, by rw [upd_ne (ne_of_none g1 hp)]; exact h1, h2⟩
  · obtain ⟨qs, g1, _⟩ := id h
    refine tabS_of (e.tabS h) (fun ps h1 => by rw [upd_ne (ne_of_none g1 hp)]; exact h1) fun c φ h1 => ?_
    rw [upd_ne (fun z => hx φ (by rw [← z]; exact h1))]
    exact h1
  · by_cases c : b = p
    · rw [c]; exact hp
    · rw [upd_ne c] at h
      exact e.dom b h
theorem Ext.new {H H1 : Hp} (e : Ext H H1) {p : Addr} {o : HO} (hp : H1 p = none) : Ext H (upd H1 p o) := e.put (e.dom p hp) fun φ z => by rw [hp] at z; cases z
theorem Ext.of_new {H : Hp} {p : Addr} {o : HO} (hp : H p = none) : Ext H (upd H p o) := (Ext.refl H).new hp
theorem Ext.tup {H H' : Hp} (e : Ext H H') {a : Addr} {xs : List V} (h : H a = some (.tup xs)) : H' a = some (.tup xs) := e.keep a _ h nt_tup
theorem Ext.lst {H H' : Hp} (e : Ext H H') {a : Addr} {xs : List V} (h : H a = some (.lst xs)) : H' a = some (.lst xs) := e.keep a _ h nt_lst
theorem Ext.dK {H H' : Hp} (e : Ext H H') {a : Addr} {xs : List (Key × V)} (h : H a = some (.dK xs)) : H' a = some (.dK xs) := e.keep a _ h nt_dK
theorem Ext.frz {H H' : Hp} (e : Ext H H') {a : Addr} {o : Obj} {u : HO} (h : H a = some (.frz o u)) : H' a = some (.frz o u) := e.keep a _ h nt_frz
theorem Ext.rd {H H' : Hp} (e : Ext H H') {a : Addr} {u : HO} (h : Rd H a u) (n : Nt u) : Rd H' a u := by
  rcases h with h | ⟨o, h⟩
  · exact .inl (e.keep a _ h n)
  · exact .inr ⟨o, e.frz h⟩
theorem Ext.seqL {K : PySem.W.Frag} {H H' : Hp} (e : Ext H H') {a : Addr} {xs : List V} (h : SqL K H a xs) : SqL K H' a xs := by
  rcases h with h | h
  · exact .inl (e.rd h nt_lst)
  · exact .inr h
theorem Ext.seqT {K : PySem.W.Frag} {H H' : Hp} (e : Ext H H') {a : Addr} {xs : List V} (h : SqT K H a xs) : SqT K H' a xs := by
  rcases h with h | h
  · exact .inl (e.rd h nt_tup)
  · exact .inr h
theorem Ext.of_tabbed {P : Addr} {H H' : Hp} (hP : GxR.TabG H P) (t : GxR.Tabbed P H H') (hne : Tb.p ≠ P) : Ext H H' := by
  obtain ⟨ps, h1, h2⟩ := hP
  obtain ⟨⟨qs, g1, g2⟩, g3⟩ := t
  refine ⟨fun b o h n => ?_, fun Q h => ?_, fun h => ?_, fun b h => ?_⟩
  · by_cases c : b = P
    · rw [c, h1] at h
      exact (n ps (Option.some.inj h).symm).elim
    · rw [g3 b c]; exact h
  · by_cases c : Q = P
    · rw [c]; exact ⟨qs, g1, g2⟩
    · obtain ⟨rs, h3, h4⟩ := h
      exact ⟨rs, by rw [g3 Q c]; exact h3, h4⟩
  · refine tabS_of h (fun ps e => by rw [g3 _ hne]; exact e) fun c φ e => ?_
    rw [g3 c (fun z => by rw [z, h1] at e; cases e)]
    exact e
  · by_cases c : b = P
    · rw [c, g1] at h; cases h
    · rw [g3 b c] at h; exact h
/-- unlocked again: what stood ahead of the lock stands as it did -/
theorem Ext.unlock {H H' : Hp} {d : Addr} {u : HO} {o : Obj} (hd : H d = some u) (hu : Nt u) (hx : ∀ φ, u ≠ .ext φ) (e : Ext (upd H d (.frz o u)) H') : Ext H (upd H' d u) := by
  have hfr : H' d = some (.frz o u) := e.keep d _ upd_same nt_frz
  refine ⟨fun b v h n => ?_, fun P h => ?_, fun h => ?_, fun b h => ?_⟩
  · by_cases c : b = d
    · rw [c, upd_same]
      rw [c, hd] at h
      exact h
    · rw [upd_ne c]
      exact e.keep b v (by rw [upd_ne c]; exact h) n
  · obtain ⟨ps, h1, h2⟩ := h
    have c : P ≠ d := fun z => by rw [z, hd] at h1; exact hu ps (Option.some.inj h1)
    obtain ⟨qs, g1, g2⟩ := e.tab P ⟨ps, by rw [upd_ne c]; exact h1, h2⟩
    exact ⟨qs, by rw [upd_ne c]; exact g1, g2⟩
  · obtain ⟨ps, h1, _⟩ := id h
    have c : Tb.p ≠ d := fun z => by rw [z, hd] at h1; exact hu ps (Option.some.inj h1)
    refine tabS_of (e.tabS (tabS_of h (fun ps h1 => by rw [upd_ne c]; exact h1) fun c φ h1 => ?_)) (fun ps h1 => by rw [upd_ne c]; exact h1) fun c φ h1 => ?_
    · rw [upd_ne (fun z => by rw [z, hd] at h1; exact hx φ (Option.some.inj h1))]; exact h1
    · rw [upd_ne (fun z => by rw [z, hfr] at h1; cases h1)]; exact h1
  · by_cases c : b = d
    · rw [c, upd_same] at h; cases h
    · rw [upd_ne c] at h
      have := e.dom b h
      rw [upd_ne c] at this
      exact this

/-! ### rows, conditions, drawers, commands, machines over the heap -/
abbrev RowAt (H : Hp) (a : Addr) (r : List Int) : Prop := H a = some (.tup (r.map V.int))
open CRM
def CdAt (H : Hp) : V → Cd → Prop
  | v, .atm n => ∃ a, v = .ref a ∧ H a = some (.tup [.str "atmost", .int n])
  | v, .dv n => ∃ a, v = .ref a ∧ H a = some (.tup [.str "divides", .int n])
  | v, .nt c => ∃ a u, v = .ref a ∧ H a = some (.tup [.str "not", u]) ∧ CdAt H u c
  | v, .orr c d => ∃ a u w, v = .ref a ∧ H a = some (.tup [.str "or", u, w]) ∧ CdAt H u c ∧ CdAt H w d
/-- its depth is at most k, its divisors are positive -/
def Cd.wf : Nat → Cd → Prop
  | _, .atm _ => True
  | _, .dv n => 0 < n
  | 0, .nt _ => False
  | k + 1, .nt c => Cd.wf k c
  | 0, .orr _ _ => False
  | k + 1, .orr c d => Cd.wf k c ∧ Cd.wf k d
theorem Ext.cd {H H' : Hp} (e : Ext H H') : ∀ {c : Cd} {v : V}, CdAt H v c → CdAt H' v c
  | .atm n, v, ⟨a, h1, h2⟩ => ⟨a, h1, e.tup h2⟩
  | .dv n, v, ⟨a, h1, h2⟩ => ⟨a, h1, e.tup h2⟩
  | .nt c, v, ⟨a, u, h1, h2, h3⟩ => ⟨a, u, h1, e.tup h2, Ext.cd e h3⟩
  | .orr c d, v, ⟨a, u, w, h1, h2, h3, h4⟩ => ⟨a, u, w, h1, e.tup h2, Ext.cd e h3, Ext.cd e h4⟩
theorem CdAt.ref {H : Hp} : ∀ {c : Cd} {v : V}, CdAt H v c → ∃ a, v = .ref a
  | .atm n, v, ⟨a, h1, h2⟩ => ⟨a, h1⟩
  | .dv n, v, ⟨a, h1, h2⟩ => ⟨a, h1⟩
  | .nt c, v, ⟨a, u, h1, h2, h3⟩ => ⟨a, h1⟩
  | .orr c d, v, ⟨a, u, w, h1, h2, h3, h4⟩ => ⟨a, h1⟩
/-- an int drawer -/
def GiAt (H : Hp) (v : V) (lo hi : Int) : Prop := ∃ a, v = .ref a ∧ H a = some (.tup [.str "int", .int lo, .int hi])
def GnAt (H : Hp) (v : V) (g : Gn) : Prop := match g.kc with
  | none => GiAt H v g.lo g.hi
  | some c => ∃ a u w, v = .ref a ∧ H a = some (.tup [.str "kept", u, w]) ∧ GiAt H u g.lo g.hi ∧ CdAt H w c
theorem Ext.gi {H H' : Hp} (e : Ext H H') {v : V} {lo hi : Int} (h : GiAt H v lo hi) : GiAt H' v lo hi := by
  obtain ⟨a, h1, h2⟩ := h
  exact ⟨a, h1, e.tup h2⟩
theorem Ext.gn {H H' : Hp} (e : Ext H H') {v : V} {g : Gn} (h : GnAt H v g) : GnAt H' v g := by
  unfold GnAt at h ⊢
  cases q : g.kc with
  | none => rw [q] at h; exact e.gi h
  | some c =>
    rw [q] at h
    obtain ⟨a, u, w, h1, h2, h3, h4⟩ := h
    exact ⟨a, u, w, h1, e.tup h2, e.gi h3, e.cd h4⟩
/-- bounds in order, not far apart; its condition is well made -/
structure Gn.wf (g : Gn) : Prop where
  le : g.lo ≤ g.hi
  few : g.hi - g.lo ≤ 2
  sm : g.small
  cd : ∀ c, g.kc = some c → Cd.wf 1 c
def nmS : Nat → Str
  | 0 => "put"
  | 1 => "get"
  | 2 => "reset"
  | _ => "jump"
def efS : Ef → Str
  | .add => "add"
  | .take => "take"
  | .set => "set"
def CmAt (H : Hp) (v : V) (c : Cm) : Prop := ∃ a gu ge, v = .ref a ∧ H a = some (.tup [.str (nmS c.nm), gu, ge, .str (efS c.ef)]) ∧ CdAt H gu c.gd ∧ GnAt H ge c.gn
theorem Ext.cm {H H' : Hp} (e : Ext H H') {v : V} {c : Cm} (h : CmAt H v c) : CmAt H' v c := by
  obtain ⟨a, gu, ge, h1, h2, h3, h4⟩ := h
  exact ⟨a, gu, ge, h1, e.tup h2, e.cd h3, e.gn h4⟩
structure Cm.wf (c : Cm) : Prop where
  nm : c.nm < 4
  gd : Cd.wf 1 c.gd
  gn : Gn.wf c.gn
theorem Paired.map_iff {α β : Type} {F G : α → β → Prop} (f : ∀ a b, F a b → G a b) {xs : List α} {ys : List β} (h : Paired F xs ys) : Paired G xs ys := L2.Paired.mapP h f
abbrev CmsAt (H : Hp) (vs : List V) (cs : List Cm) : Prop := Paired (CmAt H) vs cs
theorem Ext.cms {H H' : Hp} (e : Ext H H') {vs : List V} {cs : List Cm} (h : CmsAt H vs cs) : CmsAt H' vs cs := L2.Paired.mapP h fun _ _ => e.cm
/-- a machine stands at v: the commands' tuple at t -/
def McAt (H : Hp) (v : V) (m : Mc) : Prop := ∃ a t vs, v = .ref a ∧ H a = some (.tup [.int m.first, .ref t, .int (m.most : Int)]) ∧ H t = some (.tup vs) ∧ CmsAt H vs m.cs
theorem Ext.mc {H H' : Hp} (e : Ext H H') {v : V} {m : Mc} (h : McAt H v m) : McAt H' v m := by
  obtain ⟨a, t, vs, h1, h2, h3, h4⟩ := h
  exact ⟨a, t, vs, h1, e.tup h2, e.tup h3, e.cms h4⟩
structure Mc.wf (m : Mc) : Prop where
  f : -2 ≤ m.first ∧ m.first ≤ 2
  most : 1 ≤ m.most ∧ m.most ≤ 4
  few : m.cs.length ≤ 4
  cs : ∀ c ∈ m.cs, Cm.wf c
  nms : (m.cs.map (·.nm)).Nodup

end
/-! ### places of lists -/
theorem paired_get {α β : Type} {F : α → β → Prop} : ∀ {xs : List α} {ys : List β}, Paired F xs ys → ∀ {i : Nat} {x : α}, xs[i]? = some x → ∃ y, ys[i]? = some y ∧ F x y
  | _, _, .nil, i, x, e => by simp at e
  | _, _, .cons h t, 0, x, e => by simp at e; subst e; exact ⟨_, rfl, h⟩
  | _, _, .cons h t, i + 1, x, e => by
    obtain ⟨y, h1, h2⟩ := paired_get t (i := i) (x := x) (by simpa using e)
    exact ⟨y, by simpa using h1, h2⟩
theorem paired_get' {α β : Type} {F : α → β → Prop} : ∀ {xs : List α} {ys : List β}, Paired F xs ys → ∀ {i : Nat} {y : β}, ys[i]? = some y → ∃ x, xs[i]? = some x ∧ F x y
  | _, _, .nil, i, x, e => by simp at e
  | _, _, .cons h t, 0, x, e => by simp at e; subst e; exact ⟨_, rfl, h⟩
  | _, _, .cons h t, i + 1, x, e => by
    obtain ⟨y, h1, h2⟩ := paired_get' t (i := i) (y := x) (by simpa using e)
    exact ⟨y, by simpa using h1, h2⟩
theorem paired_snoc {α β : Type} {F : α → β → Prop} : ∀ {xs : List α} {ys : List β}, Paired F xs ys → ∀ {x : α} {y : β}, F x y → Paired F (xs ++ [x]) (ys ++ [y])
  | _, _, .nil, _, _, h => .cons h .nil
  | _, _, .cons h t, _, _, g => .cons h (paired_snoc t g)
theorem paired_app {α β : Type} {F : α → β → Prop} : ∀ {xs xs' : List α} {ys ys' : List β}, Paired F xs ys → Paired F xs' ys' → Paired F (xs ++ xs') (ys ++ ys')
  | _, _, _, _, .nil, h => h
  | _, _, _, _, .cons h t, g => .cons h (paired_app t g)
theorem paired_len {α β : Type} {F : α → β → Prop} {xs : List α} {ys : List β} (h : Paired F xs ys) : xs.length = ys.length := Paired.length h
theorem take_more {α : Type} {l : List α} {i : Nat} {x : α} (h : l[i]? = some x) : l.take (i + 1) = l.take i ++ [x] := by
  rw [List.take_add_one, h]
  rfl
theorem at_0 {α : Type} {x : α} {xs : List α} : atI (x :: xs) 0 = some x := atI_nat (j := 0) rfl
theorem at_1 {α : Type} {x y : α} {xs : List α} : atI (x :: y :: xs) 1 = some y := atI_nat (j := 1) rfl
theorem at_2 {α : Type} {x y z : α} {xs : List α} : atI (x :: y :: z :: xs) 2 = some z := atI_nat (j := 2) rfl
theorem at_3 {α : Type} {x y z u : α} {xs : List α} : atI (x :: y :: z :: u :: xs) 3 = some u := atI_nat (j := 3) rfl
theorem at_int {α : Type} {xs : List α} {i : Int} {v : α} (h0 : 0 ≤ i) (h : xs[i.toNat]? = some v) : atI xs i = some v := by
  have e : i = ((i.toNat : Nat) : Int) := by omega
  rw [e]
  exact atI_nat h
theorem len_ok {α : Type} {l : List α} (h : l.length ≤ 100000) : l.length ≤ sizeLine := Nat.le_trans h (by decide)
theorem len_lt {α : Type} {l : List α} (h : l.length < 100000) : l.length < sizeLine := Nat.lt_of_lt_of_le h (by decide)
/-! ### tests whose answer is known -/
theorem ite_t {c : Prop} [Decidable c] {A B : Prop} (hc : c) (h : A) : if decide c = true then A else B := by rw [decide_eq_true hc, if_pos rfl]; exact h
theorem ite_f {c : Prop} [Decidable c] {A B : Prop} (hc : ¬ c) (h : B) : if decide c = true then A else B := by rw [decide_eq_false hc, if_neg Bool.false_ne_true]; exact h
theorem ite_bt {c : Bool} {A B : Prop} (hc : c = true) (h : A) : if c = true then A else B := by rw [if_pos hc]; exact h
theorem ite_bf {c : Bool} {A B : Prop} (hc : c = false) (h : B) : if c = true then A else B := by rw [hc, if_neg Bool.false_ne_true]; exact h
/-- two written texts differ -/
theorem sne {x y : Str} (h : decide (x = y) = false) : ¬ V.str x = V.str y := fun z => by injection z with z; exact absurd z (of_decide_eq_false h)
end Cr
set_option Elab.async false
set_option linter.all false
set_option maxRecDepth 100000
set_option maxHeartbeats 4000000
/-! Choicerows: holds, walked once at the library's own level (all objects stay), then as a promise. -/
namespace Cr
open PySem PySem.Spec PyProof.Rows L2 CRM
/-! ### conditions in a heap -/
def CdR (h : Heap) : Value → Cd → Prop
  | u, .atm n => ∃ a t t', u = .ref a ∧ IsTup h a #[.str "atmost" t, .int n t']
  | u, .dv n => ∃ a t t', u = .ref a ∧ IsTup h a #[.str "divides" t, .int n t']
  | u, .nt c => ∃ a t z, u = .ref a ∧ IsTup h a #[.str "not" t, z] ∧ CdR h z c
  | u, .orr c d => ∃ a t z y, u = .ref a ∧ IsTup h a #[.str "or" t, z, y] ∧ CdR h z c ∧ CdR h y d
theorem CdR.keeps {h h' : Heap} (k : ∀ b o, h.get? b = some o → h'.get? b = some o) : ∀ {c : Cd} {u : Value}, CdR h u c → CdR h' u c
  | .atm n, u, ⟨a, t, t', h1, h2⟩ => ⟨a, t, t', h1, h2.keeps k⟩
  | .dv n, u, ⟨a, t, t', h1, h2⟩ => ⟨a, t, t', h1, h2.keeps k⟩
  | .nt c, u, ⟨a, t, z, h1, h2, h3⟩ => ⟨a, t, z, h1, h2.keeps k, CdR.keeps k h3⟩
  | .orr c d, u, ⟨a, t, z, y, h1, h2, h3, h4⟩ => ⟨a, t, z, y, h1, h2.keeps k, CdR.keeps k h3, CdR.keeps k h4⟩
theorem tup_of {P : Program} {w : World} {H : Hp} {h : Heap} (ok : HOk P w H h) {a : Addr} {xs : List V} (e : H a = some (.tup xs)) : ∃ its : List Value, Vals xs its ∧ IsTup h a its.toArray := by
  obtain ⟨_, its, r, p⟩ := ok a _ e
  exact ⟨its, r, p⟩
theorem CdR.of {P : Program} {w : World} {H : Hp} {h : Heap} (ok : HOk P w H h) : ∀ {c : Cd} {v : V} {u : Value}, CdAt H v c → RelV v u → CdR h u c
  | .atm n, v, u, ⟨a, h1, h2⟩, r => by
    subst h1
    obtain ⟨its, rv, p⟩ := tup_of ok h2
    obtain ⟨u1, u2, rfl, ⟨t1, e1⟩, ⟨t2, e2⟩⟩ := vals2 rv
    subst e1 e2
    exact ⟨a, t1, t2, r, p⟩
  | .dv n, v, u, ⟨a, h1, h2⟩, r => by
    subst h1
    obtain ⟨its, rv, p⟩ := tup_of ok h2
    obtain ⟨u1, u2, rfl, ⟨t1, e1⟩, ⟨t2, e2⟩⟩ := vals2 rv
    subst e1 e2
    exact ⟨a, t1, t2, r, p⟩
  | .nt c, v, u, ⟨a, x, h1, h2, h3⟩, r => by
    subst h1
    obtain ⟨its, rv, p⟩ := tup_of ok h2
    obtain ⟨u1, u2, rfl, ⟨t1, e1⟩, e2⟩ := vals2 rv
    subst e1
    exact ⟨a, t1, u2, r, p, CdR.of ok h3 e2⟩
  | .orr c d, v, u, ⟨a, x, y, h1, h2, h3, h4⟩, r => by
    subst h1
    obtain ⟨its, rv, p⟩ := tup_of ok h2
    cases rv with
    | cons r1 rv =>
      obtain ⟨u2, u3, rfl, e2, e3⟩ := vals2 rv
      obtain ⟨t1, e1⟩ := r1
      subst e1
      exact ⟨a, t1, u2, u3, r, p, CdR.of ok h3 e2, CdR.of ok h4 e3⟩
/-! ### small steps in a frame whose objects all stay -/
abbrev hEnv (L f : Addr) (cd : Value) : Env := envOfC "holds" (defScope sHolds) L f cd
section
variable {P : Program} {w : World} {A : Around} {E : Value → Shared → Prop} {S s : Shared} {L f : Addr} {cd : Value} {m : Str → Option Value}
theorem hn_ld {x : Str} {pos : Pos} {v : Value} {Q : Value → Shared → Prop} (I : InCall S L m s) (hl : (defScope sHolds).names.lookup x = some .local) (hv : m x = some v) (h : Q v s) (hd : (x == ("__debug__" : Str)) = false) :
    wpAny (model P w) A (eval (.Name x pos) (hEnv L f cd)) Q E s :=
  wpAny_Name (wpAny_loadName_local (env := hEnv L f cd) rfl hl I.ns hv h) hd
theorem l_cond : (defScope sHolds).names.lookup ("condition" : Str) = some .local := by decide +kernel
theorem l_val : (defScope sHolds).names.lookup ("value" : Str) = some .local := by decide +kernel
theorem l_name : (defScope sHolds).names.lookup ("name" : Str) = some .local := by decide +kernel
theorem l_holds : (defScope sHolds).names.lookup ("holds" : Str) = some .globalImplicit := by decide +kernel
theorem d_cond : (("condition" : Str) == ("__debug__" : Str)) = false := by decide +kernel
theorem d_val : (("value" : Str) == ("__debug__" : Str)) = false := by decide +kernel
theorem d_name : (("name" : Str) == ("__debug__" : Str)) = false := by decide +kernel
theorem d_holds : (("holds" : Str) == ("__debug__" : Str)) = false := by decide +kernel
/-- condition[i] -/
theorem hn_sub {i : Nat} {j : Nat} {p1 p2 p3 : Pos} {a : Addr} {its : Array Value} {u : Value} {Q : Value → Shared → Prop} (I : InCall S L m s) (hv : m "condition" = some (.ref a)) (ht : IsTup s.heap a its) (hi : i < 4) (hu : its[i]? = some u)
    (h : ∀ s', InCall S L m s' → (∀ b o, s.heap.get? b = some o → s'.heap.get? b = some o) → Q u s') :
    wpAny (model P w) A (eval (.Subscript (.Name "condition" p1) (.Constant (.int (i : Int)) j p2) p3) (hEnv L f cd)) Q E s := by
  refine Subscript_Constant (hn_ld I l_cond hv ?_ d_cond)
  refine wpAny_Constant_int ?_
  have hz : i < its.size := (Array.getElem?_eq_some_iff.mp hu).1
  have e1 : seqIndex? (i : Int) its.size = some i := by
    unfold seqIndex?
    simp
    omega
  refine ⟨"tuple", _, slot_tuple_getitem.lookup, ht.typeIs, getItem_tuple ht (by omega) (by omega) e1 hu (h _ (I.tok _) fun _ _ e => e)⟩
/-- if name == 'k': .. -/
theorem hn_if {k z : Str} {t : Tok} {j : Nat} {p1 p2 p3 p4 : Pos} {body : List Stmt} {Q : Flow → Shared → Prop} (I : InCall S L m s) (hv : m "name" = some (.str z t))
    (h : ∀ s', InCall S L m s' → (∀ b o, s.heap.get? b = some o → s'.heap.get? b = some o) → if (z == k) = true then wpAny (model P w) A (execs body (hEnv L f cd)) Q E s' else Q .next s') :
    wpAny (model P w) A (exec (.If (.Compare (.Name "name" p1) [.Eq] [.Constant (.str k) j p2] p3) body [] p4) (hEnv L f cd)) Q E s := by
  refine wpAny_If (wpAny_isTrue_Compare1 (hn_ld I l_name hv ?_ d_name))
  refine Calls.Constant_str ?_
  refine PyProof.Rows.eq_str ?_
  refine wpAny_truthy_bool ?_
  have q := h { s with toks := s.toks + 1 } (I.tok _) fun _ _ e => e
  cases c : (z == k) with
  | true =>
    rw [c] at q
    exact q
  | false =>
    rw [c] at q
    exact wpAny_execs_nil q
end
/-! ### the raw promise -/
def rnk : Cd → Nat
  | .atm _ => 0
  | .dv _ => 0
  | .nt c => rnk c + 1
  | .orr c d => max (rnk c) (rnk d) + 1
def posD : Cd → Prop
  | .atm _ => True
  | .dv n => 0 < n
  | .nt c => posD c
  | .orr c d => posD c ∧ posD d
theorem wf_rnk : ∀ {k : Nat} {c : Cd}, Cd.wf k c → rnk c ≤ k ∧ posD c
  | k, .atm _, h => ⟨Nat.zero_le _, trivial⟩
  | k, .dv _, h => by cases k <;> exact ⟨Nat.zero_le _, h⟩
  | 0, .nt _, h => h.elim
  | k + 1, .nt c, h => by
    obtain ⟨a, b⟩ := wf_rnk (k := k) (c := c) h
    exact ⟨Nat.succ_le_succ a, b⟩
  | 0, .orr _ _, h => h.elim
  | k + 1, .orr c d, h => by
    obtain ⟨h1, h2⟩ := h
    obtain ⟨a, b⟩ := wf_rnk h1
    obtain ⟨a', b'⟩ := wf_rnk h2
    exact ⟨Nat.succ_le_succ (Nat.max_le.mpr ⟨a, a'⟩), b, b'⟩
section
variable {P : Program} {w : World} {K : PySem.W.Frag} {mg : Str → Option Value} {f : Addr} {fd : FuncData}
theorem mod_is {v n : Int} (h : 0 < n) : (v.fmod n == 0) = decide (v % n = 0) := by
  rw [Int.fmod_eq_emod_of_nonneg v (Int.le_of_lt h), Bool.beq_eq_decide_eq]
/-- a call of holds within holds: condition[i], value -/
theorem hn_call {A : Around} {E : Value → Shared → Prop} {S s : Shared} {L : Addr} {cd : Value} {m : Str → Option Value} {i j : Nat} {p0 p1 p2 p3 p4 p5 : Pos} {a : Addr} {its : Array Value} {u : Value} {v : Int} {t : Tok} {b : Bool} {Q : Value → Shared → Prop}
    (kp : PySem.W.keepIn K (.ref f) = true) (hg : mg "holds" = some (.ref f)) (X : K.In S.heap) (G : S.heap.Ns mainGlobals mg)
    (I : InCall S L m s) (hc : m "condition" = some (.ref a)) (hv : m "value" = some (.int v t)) (ht : IsTup S.heap a its) (hi : i < 4) (hu : its[i]? = some u)
    (run : ∀ s', InCall S L m s' → (∀ b o, S.heap.get? b = some o → s'.heap.get? b = some o) → codeAny (model P w) A (.call (.ref f) ⟨[u, .int v t], []⟩) (fun r s2 => r = .ok (.ret (.bool b)) ∧ ∃ h' tk, s2 = { s' with heap := h', toks := tk } ∧ ∀ b o, s'.heap.get? b = some o → h'.get? b = some o) s')
    (h : ∀ s', InCall S L m s' → Q (.bool b) s') :
    wpAny (model P w) A (eval (.Call (.Name "holds" p0) [.Subscript (.Name "condition" p1) (.Constant (.int (i : Int)) j p2) p3, .Name "value" p4] [] p5) (hEnv L f cd)) Q E s := by
  refine wpAny_Call_Name_kw (Calls.Name_function_global rfl l_holds (Calls.loadGlobal_global (G.keeps I.keep) hg ?_) d_holds)
  refine PySem.W.callWith_K (h₀ := S.heap) X kp ?_ rfl rfl
  refine Calls.spliced_cons (hn_sub I hc (ht.keeps I.keep) hi hu fun s1 I1 k1 => ?_)
  refine Calls.spliced_cons (hn_ld I1 l_val hv ?_ d_val)
  refine Calls.spliced_nil ?_
  refine ⟨X.keeps I1.keep, wpAny_call (codeAny_mono (run s1 I1 I1.keep) fun r s2 q => ?_)⟩
  obtain ⟨rfl, h', tk, rfl, kk⟩ := q
  refine h _ ⟨?_, ?_, fun b o e => kk b o (I1.keep b o e), I1.fresh⟩
  · obtain ⟨hh, tk2, e⟩ := I1.same
    exact ⟨h', tk, by rw [e]⟩
  · obtain ⟨o, es, ep, ho, r⟩ := I1.ns
    exact ⟨o, es, ep, kk _ _ ho, r⟩
/-- the locals behind the first statement -/
def hM (cv : Value) (v : Int) (t : Tok) (z : Str) (tz : Tok) : Str → Option Value := fun y => if y = "name" then some (.str z tz) else bindL (hEnv 0 0 .none).kindOf [("condition", cv), ("value", .int v t)] (fun _ => none) y
theorem hM_n {cv : Value} {v : Int} {t tz : Tok} {z : Str} : hM cv v t z tz "name" = some (.str z tz) := if_pos rfl
theorem hM_c {cv : Value} {v : Int} {t tz : Tok} {z : Str} : hM cv v t z tz "condition" = some cv := by
  unfold hM
  rw [if_neg (by decide +kernel)]
  unfold bindL
  rw [if_pos (show (hEnv 0 0 .none).kindOf "condition" = some .local from l_cond)]
  unfold bindL
  rw [if_pos (show (hEnv 0 0 .none).kindOf "value" = some .local from l_val)]
  unfold bindL
  dsimp only
  rw [if_neg (by decide +kernel), if_pos rfl]
theorem hM_v {cv : Value} {v : Int} {t tz : Tok} {z : Str} : hM cv v t z tz "value" = some (.int v t) := by
  unfold hM
  rw [if_neg (by decide +kernel)]
  unfold bindL
  rw [if_pos (show (hEnv 0 0 .none).kindOf "condition" = some .local from l_cond)]
  unfold bindL
  rw [if_pos (show (hEnv 0 0 .none).kindOf "value" = some .local from l_val)]
  unfold bindL
  dsimp only
  rw [if_pos rfl]
/-- into the def, behind name = condition[0] -/
theorem holds_in {kV doc pm ct oc cdv : Value} {an od : Option Addr} {osl : Array (Option Value)} {A : Around} {R : Result → Shared → Prop} {s : Shared} {a : Addr} {its : Array Value} {v : Int} {t tz : Tok} {z : Str}
    (lk : K.lookup f = some ⟨oc, od, .func (PySem.W.fnOf "holds" "holds" (defArgs sHolds) (defBody sHolds) (defScope sHolds) .none kV doc pm an cdv ct), osl⟩) (hcd : PySem.W.codeIn K cdv "holds" = true)
    {args : Args} (hargs : BindsTo s (PySem.W.fnOf "holds" "holds" (defArgs sHolds) (defBody sHolds) (defScope sHolds) .none kV doc pm an cdv ct) args [("condition", .ref a), ("value", .int v t)])
    (hroom : A.depth < recursionLimit) (X : K.In s.heap) (hlim : s.heap.NoLimit) (ht : IsTup s.heap a its) (h0 : its[0]? = some (.str z tz))
    (h : ∀ L s1, InCall s L (hM (.ref a) v t z tz) s1 → wpAny (model P w) (A.deeper (hEnv L f cdv)) (execs (defBody sHolds).tail (hEnv L f cdv))
      (fun fl s' => ∃ u, fl = .ret u ∧ R (.ok (.ret u)) s') (fun _ _ => False) s1) :
    codeAny (model P w) A (.call (.ref f) args) R s := by
  refine Att.call_fn (binds := [("condition", .ref a), ("value", .int v t)]) X hlim lk hcd hroom hargs (by first | rfl | kernel_rfl) (fun s1 IC => ?_) rfl rfl rfl
  have I := IC.toInCall
  have hc : bindL (envOfC "holds" (defScope sHolds) s.heap.objs.size f cdv).kindOf [("condition", Value.ref a), ("value", .int v t)] (fun _ => none) "condition" = some (.ref a) := by
    have := @hM_c (.ref a) v t tz z
    unfold hM at this
    rw [if_neg (by decide +kernel)] at this
    exact this
  show wpAny _ _ (execs _ _) _ _ _
  refine wpAny_execs_cons (wpAny_Assign_Name (hn_sub (i := 0) I hc (ht.keeps I.keep) (by decide) h0 fun s2 I2 _ => ?_))
  refine wpAny_storeName_local (env := hEnv s.heap.objs.size f cdv) (name := "name") l_name I2.ns (fun h' hn' hs' => ?_) rfl
  have I3 : InCall s s.heap.objs.size (hM (.ref a) v t z tz) { s2 with heap := h', toks := s2.toks + 1 } := by
    refine ⟨?_, hn', fun b o e => hs'.extBut b o (Nat.ne_of_lt (Nat.lt_of_lt_of_le (Heap.lt_size e) I2.fresh)) (I2.keep b o e), I2.fresh⟩
    obtain ⟨h₁, tk, e⟩ := I2.same
    exact ⟨h', _, by rw [e]⟩
  refine wpAny_mono (h _ _ I3) (fun fl s' q => ?_) fun _ _ q => q.elim
  obtain ⟨u, rfl, q⟩ := q
  exact q
/-- the end of a way: return e -/
theorem hn_ret {A : Around} {S s : Shared} {L : Addr} {cd : Value} {m : Str → Option Value} {e : Expr} {rest : List Stmt} {pos : Pos} {b : Bool} (I : InCall S L m s)
    (h : ∀ {Q : Value → Shared → Prop}, (∀ s', InCall S L m s' → Q (.bool b) s') → wpAny (model P w) A (eval e (hEnv L f cd)) Q (fun _ _ => False) s) :
    wpAny (model P w) A (execs (.Return (some e) pos :: rest) (hEnv L f cd)) (fun fl s' => ∃ u, fl = .ret u ∧ (u = .bool b ∧ ∃ h' tk, s' = { S with heap := h', toks := tk } ∧ ∀ b o, S.heap.get? b = some o → h'.get? b = some o)) (fun _ _ => False) s := by
  refine wpAny_execs_cons (wpAny_Return_some (h fun s' I' => ?_))
  obtain ⟨h', tk, e⟩ := I'.same
  refine ⟨_, rfl, rfl, h', tk, e, fun b o q => ?_⟩
  have := I'.keep b o q
  rw [e] at this
  exact this
/-- all objects stay, the answer is the condition's -/
theorem holds_raw (F : FunD K "holds" "holds" (defArgs sHolds) (defBody sHolds) (defScope sHolds) [] [] f fd) (hg : mg "holds" = some (.ref f)) :
    ∀ (c : Cd) (A : Around) (s : Shared) (cv : Value) (v : Int) (t : Tok) (args : Args), BindsTo s fd args [("condition", cv), ("value", .int v t)] → posD c → A.depth + rnk c < recursionLimit → K.In s.heap → s.heap.NoLimit → s.heap.Ns mainGlobals mg → CdR s.heap cv c →
      codeAny (model P w) A (.call (.ref f) args) (fun r s2 => r = .ok (.ret (.bool (c.ok v))) ∧ ∃ h' tk, s2 = { s with heap := h', toks := tk } ∧ ∀ b o, s.heap.get? b = some o → h'.get? b = some o) s := by
  obtain ⟨oc, od, dV, kV, doc, pm, an, cdv, ct, osl, rfl, lk, hcd, hdf, hkd⟩ := F.ex
  have hdV : dV = .none := by
    rcases hdf with ⟨_, h1⟩ | ⟨h1, _⟩
    · exact h1
    · exact absurd rfl h1
  subst hdV
  have deeper : ∀ (A : Around) (env : Env), (A.deeper env).depth = A.depth + 1 := fun A env => rfl
  intro c
  induction c with
  | atm n =>
    intro A s cv v t args hb hp hr X hlim G hC
    obtain ⟨a, t1, t2, rfl, ht⟩ := hC
    refine holds_in lk hcd hb (by omega) X hlim ht rfl fun L s1 I => ?_
    refine wpAny_execs_cons (hn_if I hM_n fun s2 I2 k2 => ?_)
    refine ite_bt (by decide +kernel) (wpAny_mono (hn_ret (b := decide (v ≤ n)) I2 fun {Q} q => ?_) (fun fl s' z => ?_) fun _ _ z => z)
    · refine wpAny_Compare1 (hn_ld I2 l_val hM_v ?_ d_val)
      refine hn_sub (i := 1) I2 hM_c (ht.keeps I2.keep) (by decide) rfl fun s3 I3 _ => ?_
      exact PyProof.Rows.le_int (q s3 I3)
    · obtain ⟨u, rfl, rfl, z⟩ := z
      exact ⟨_, rfl, rfl, z⟩
  | dv n =>
    intro A s cv v t args hb hp hr X hlim G hC
    obtain ⟨a, t1, t2, rfl, ht⟩ := hC
    refine holds_in lk hcd hb (by omega) X hlim ht rfl fun L s1 I => ?_
    refine wpAny_execs_cons (hn_if I hM_n fun s2 I2 k2 => ?_)
    refine ite_bf (by decide +kernel) ?_
    refine wpAny_execs_cons (hn_if I2 hM_n fun s2 I2 k2 => ?_)
    have hp' : 0 < n := hp
    refine ite_bt (by decide +kernel) (wpAny_mono (hn_ret (b := decide (v % n = 0)) I2 fun {Q} q => ?_) (fun fl s' z => ?_) fun _ _ z => z)
    · refine wpAny_Compare1 (wpAny_BinOp (hn_ld I2 l_val hM_v ?_ d_val))
      refine hn_sub (i := 1) I2 hM_c (ht.keeps I2.keep) (by decide) rfl fun s3 I3 _ => ?_
      refine PyProof.Rows.mod_int (by omega) ?_
      refine wpAny_Constant_int ?_
      refine PyProof.Rows.eq_int ?_
      rw [mod_is hp']
      exact q _ ((I3.tok _).tok _)
    · obtain ⟨u, rfl, rfl, z⟩ := z
      exact ⟨_, rfl, rfl, z⟩
  | nt c ih =>
    intro A s cv v t args hb hp hr X hlim G hC
    obtain ⟨a, t1, z, rfl, ht, hz⟩ := hC
    have hr' : A.depth + (rnk c + 1) < recursionLimit := hr
    refine holds_in lk hcd hb (by omega) X hlim ht rfl fun L s1 I => ?_
    refine wpAny_execs_cons (hn_if I hM_n fun s2 I2 k2 => ite_bf (by decide +kernel) ?_)
    refine wpAny_execs_cons (hn_if I2 hM_n fun s2 I2 k2 => ite_bf (by decide +kernel) ?_)
    refine wpAny_execs_cons (hn_if I2 hM_n fun s2 I2 k2 => ite_bf (by decide +kernel) ?_)
    refine wpAny_execs_cons (hn_if I2 hM_n fun s2 I2 k2 => ite_bf (by decide +kernel) ?_)
    refine wpAny_execs_cons (hn_if I2 hM_n fun s2 I2 k2 => ?_)
    refine ite_bt (by decide +kernel) (wpAny_mono (hn_ret (b := !c.ok v) I2 fun {Q} q => ?_) (fun fl s' z => ?_) fun _ _ z => z)
    · refine UnaryOp_ (hn_call (i := 1) (b := c.ok v) F.kp hg X G I2 hM_c hM_v ht (by decide) rfl (fun s3 I3 k3 => ih _ s3 z v t _ (BindsTo.of_eq rfl) hp (by rw [deeper]; omega) (X.keeps k3) (hlim.keeps k3) (G.keeps k3) (hz.keeps k3)) fun s3 I3 => ?_)
      exact not_of (wpAny_truthy_bool (q s3 I3))
    · obtain ⟨u, rfl, rfl, z⟩ := z
      exact ⟨_, rfl, rfl, z⟩
  | orr c d ih1 ih2 =>
    intro A s cv v t args hb hp hr X hlim G hC
    obtain ⟨a, t1, z, y, rfl, ht, hz, hy⟩ := hC
    have hr' : A.depth + (max (rnk c) (rnk d) + 1) < recursionLimit := hr
    refine holds_in lk hcd hb (by omega) X hlim ht rfl fun L s1 I => ?_
    refine wpAny_execs_cons (hn_if I hM_n fun s2 I2 k2 => ite_bf (by decide +kernel) ?_)
    refine wpAny_execs_cons (hn_if I2 hM_n fun s2 I2 k2 => ite_bf (by decide +kernel) ?_)
    refine wpAny_execs_cons (hn_if I2 hM_n fun s2 I2 k2 => ite_bf (by decide +kernel) ?_)
    refine wpAny_execs_cons (hn_if I2 hM_n fun s2 I2 k2 => ite_bf (by decide +kernel) ?_)
    refine wpAny_execs_cons (hn_if I2 hM_n fun s2 I2 k2 => ite_bf (by decide +kernel) ?_)
    refine wpAny_execs_cons (hn_if I2 hM_n fun s2 I2 k2 => ite_bf (by decide +kernel) ?_)
    refine wpAny_execs_cons (hn_if I2 hM_n fun s2 I2 k2 => ?_)
    refine ite_bt (by decide +kernel) (wpAny_mono (hn_ret (b := c.ok v || d.ok v) I2 fun {Q} q => ?_) (fun fl s' z => ?_) fun _ _ z => z)
    · refine BoolOp_or (hn_call (i := 1) (b := c.ok v) F.kp hg X G I2 hM_c hM_v ht (by decide) rfl (fun s3 I3 k3 => ih1 _ s3 z v t _ (BindsTo.of_eq rfl) hp.1 (by rw [deeper]; omega) (X.keeps k3) (hlim.keeps k3) (G.keeps k3) (hz.keeps k3)) fun s3 I3 => ?_)
      refine wpAny_truthy_bool ?_
      cases e : c.ok v with
      | true =>
        rw [if_pos rfl]
        have := q s3 I3
        rw [e] at this
        exact this
      | false =>
        rw [if_neg Bool.false_ne_true]
        refine BoolOp_one (hn_call (i := 2) (b := d.ok v) F.kp hg X G I3 hM_c hM_v ht (by decide) rfl (fun s4 I4 k4 => ih2 _ s4 y v t _ (BindsTo.of_eq rfl) hp.2 (by rw [deeper]; omega) (X.keeps k4) (hlim.keeps k4) (G.keeps k4) (hy.keeps k4)) fun s4 I4 => ?_)
        have := q s4 I4
        rw [e] at this
        exact this
    · obtain ⟨u, rfl, rfl, z⟩ := z
      exact ⟨_, rfl, rfl, z⟩
/-- the promise: a condition and an int; nothing changes -/
def spHolds : Sp := fun vs H Q _ => ∃ (cv : V) (c : Cd) (v : Int), vs = [cv, .int v] ∧ CdAt H cv c ∧ Cd.wf 1 c ∧ Q (.bl (c.ok v)) H
theorem ok_holds {base : Heap} (F : FunD K "holds" "holds" (defArgs sHolds) (defBody sHolds) (defScope sHolds) [] [] f fd) (hg : mg "holds" = some (.ref f)) : FnOk P w K mg base CX0 1 f fd ["condition", "value"] spHolds := by
  refine ⟨fun vs H Q E h => ?_, fun A outer s H args us vs Q E hr he hb hv hs => ?_⟩
  · obtain ⟨cv, c, v, rfl, _⟩ := h
    rfl
  · obtain ⟨cv, c, v, rfl, hc, hw, q⟩ := hs
    obtain ⟨u1, u2, rfl, e1, ⟨t, e2⟩⟩ := vals2 hv
    subst e2
    obtain ⟨hk, hp⟩ := wf_rnk hw
    have X : K.In s.heap := he.mod.kin.keeps fun b o e => (he.bs b o e).1
    have G : s.heap.Ns mainGlobals mg := he.mod.glob.keeps fun b o e => (he.bs b o e).1
    have hl : s.heap.NoLimit := he.mod.nolimit.keeps fun b o e => (he.bs b o e).1
    have hd := hr.dp
    refine codeAny_mono (holds_raw F hg c A s u1 v t args hb hp (by omega) X hl G (CdR.of he.hok hc e1)) fun r s2 z => ?_
    obtain ⟨rfl, h', tk, rfl, k⟩ := z
    exact ⟨.bl (c.ok v), H, rfl, he.bare, Un.kept k, he.hok.kept k, rfl, q⟩
end
end Cr
set_option Elab.async false
set_option linter.all false
set_option maxRecDepth 100000
set_option maxHeartbeats 4000000
/-! Choicerows: the small defs of machines: behind, choice_at, allowed. -/
namespace Cr
open PySem PySem.Spec PyProof.Rows L2 CRM
variable [Tb]
abbrev FnP (K : PySem.W.Frag) (x q : Str) (st : Stmt) (f : Addr) (fd : FuncData) : Prop := FunD K x q (defArgs st) (defBody st) (defScope st) [] [] f fd
section
variable {P : Program} {w : World} {K : PySem.W.Frag} {mg : Str → Option Value} {base : Heap}
/-! ### behind -/
def spBehind : Sp := fun vs H Q _ => ∃ (cv : V) (c : Cm) (s a : Int), vs = [cv, .int s, .int a] ∧ CmAt H cv c ∧ Q (.int (c.ef.app s a)) H
theorem scBehind : FnScope ["command", "state", "argument"] ["command", "state", "argument"] (defScope sBehind) := ⟨rfl, rfl, rfl, by decide +kernel, rfl, by decide +kernel, by decide +kernel⟩
theorem ok_behind {f : Addr} {fd : FuncData} (F : FnP K "behind" "behind" sBehind f fd) : FnOk P w K mg base CX0 1 f fd ["command", "state", "argument"] spBehind := by
  refine F.ok scBehind (fun vs H Q E h => ?_) (fun cdv A outer s H vs Q E hr h => ?_)
  · obtain ⟨cv, c, x, a, rfl, _⟩ := h
    rfl
  · obtain ⟨cv, c, x, a, rfl, hc, q⟩ := h
    obtain ⟨ca, gu, ge, rfl, h1, _, _⟩ := hc
    refine ⟨_, PSs.nox (pss_cons (ps_if (pt_cmpR op_eq (pe_ix ix_tup (pv 0) pe_int (fun _ _ => rfl)) pe_str (nomark _)) (pss_one (ps_ret (pe_op op_add (pv 1) (pv 2)))) pss_nil)
      (pss_cons (ps_if (pt_cmpR op_eq (pe_ix ix_tup (pv 0) pe_int (fun _ _ => rfl)) pe_str (nomark _)) (pss_one (ps_ret (pe_op op_sub (pv 1) (pv 2)))) pss_nil)
      (pss_one (ps_ret (pv 2))))), ?_⟩
    refine ⟨_, rfl, _, _, _, _, rfl, rfl, SqT.of h1, at_3, rfl, _, rfl, ?_⟩
    cases e : c.ef with
    | add =>
      rw [e] at q
      exact ite_t (by decide +kernel) ⟨_, rfl, _, rfl, _, _, rfl, rfl, q⟩
    | take =>
      rw [e] at q h1
      refine ite_f (by decide +kernel) ⟨_, rfl, _, _, _, _, rfl, rfl, SqT.of h1, at_3, rfl, _, rfl, ?_⟩
      exact ite_t (by decide +kernel) ⟨_, rfl, _, rfl, _, _, rfl, rfl, q⟩
    | set =>
      rw [e] at q h1
      refine ite_f (by decide +kernel) ⟨_, rfl, _, _, _, _, rfl, rfl, SqT.of h1, at_3, rfl, _, rfl, ?_⟩
      exact ite_f (by decide +kernel) ⟨_, rfl, q⟩
/-! ### choice_at -/
/-- None where the choice can be made; else an outcome that is no value -/
def spChoiceAt : Sp := fun vs H Q _ => ∃ (a : Addr) (row : List Int) (place bound : Int), vs = [.ref a, .int place, .int bound] ∧ RowAt H a row ∧ row.length ≤ 1000 ∧ 0 ≤ place ∧
  ((∃ b, row[place.toNat]? = some b ∧ 0 ≤ b ∧ b ≤ bound) → Q .non H) ∧
  ((¬ ∃ b, row[place.toNat]? = some b ∧ 0 ≤ b ∧ b ≤ bound) → ∀ p H' (z : Str) (n : Int), Ext H H' → H' p = some (.tup [.str z, .int n]) → ¬ z = "value" → Q (.ref p) H')
theorem scChoiceAt : FnScope ["row", "place", "bound"] ["row", "place", "bound"] (defScope sChoiceAt) := ⟨rfl, rfl, rfl, by decide +kernel, rfl, by decide +kernel, by decide +kernel⟩
theorem ok_choice_at {f : Addr} {fd : FuncData} (F : FnP K "choice_at" "choice_at" sChoiceAt f fd) (hlen : mg "len" = none) : FnOk P w K mg base CX0 1 f fd ["row", "place", "bound"] spChoiceAt := by
  refine F.ok scChoiceAt (fun vs H Q E h => ?_) (fun cdv A outer s H vs Q E hr h => ?_)
  · obtain ⟨a, row, p, b, rfl, _⟩ := h
    rfl
  · obtain ⟨a, row, place, bound, rfl, hrow, hz, hp, k1, k2⟩ := h
    refine ⟨_, PSs.nox (pss_cons (ps_if (pt_cmpR op_ge (pv 1) (pe_callB call_len_seq (by rfl) hlen PySem.boot_len (pa_cons (pv 0) pa_nil)) (nomark _)) (pss_one (ps_ret (pe_tup (pa_cons pe_str (pa_cons (pe_callB call_len_seq (by rfl) hlen PySem.boot_len (pa_cons (pv 0) pa_nil)) pa_nil))))) pss_nil)
      (pss_cons (ps_if (pt_not (pt_chain op_le op_le pe_int (pe_ix ix_tup (pv 0) (pv 1) (fun _ _ => rfl)) (pv 2))) (pss_one (ps_ret (pe_tup (pa_cons pe_str (pa_cons (pv 1) pa_nil))))) pss_nil)
      (pss_one (ps_ret pe_non)))), ?_⟩
    have hl : (row.map V.int).length = row.length := List.length_map ..
    refine ⟨_, rfl, _, rfl, _, _, rfl, .inr (SqT.of hrow), _, _, rfl, rfl, _, rfl, ?_⟩
    rw [hl]
    by_cases c : (row.length : Int) ≤ place
    · refine ite_t c ⟨_, rfl, _, _, rfl, .inr (SqT.of hrow), (by show 2 ≤ sizeLine; decide), fun p np => ?_⟩
      exact k2 (fun ⟨b, hb, _⟩ => by have := (List.getElem?_eq_some_iff.mp hb).1; omega) p _ _ _ (Ext.of_new np) upd_same (by decide +kernel)
    · refine ite_f c ?_
      obtain ⟨b, hb⟩ : ∃ b, row[place.toNat]? = some b := ⟨_, List.getElem?_eq_getElem (by omega)⟩
      refine ⟨_, rfl, _, rfl, _, _, _, _, rfl, rfl, SqT.of hrow, at_int hp (by rw [List.getElem?_map, hb]; rfl), _, _, rfl, rfl, _, rfl, ?_⟩
      by_cases c1 : 0 ≤ b
      · refine ite_t c1 ⟨_, rfl, _, _, rfl, rfl, _, rfl, ?_⟩
        by_cases c2 : b ≤ bound
        · rw [decide_eq_true c2]
          exact iteF (k1 ⟨b, hb, c1, c2⟩)
        · rw [decide_eq_false c2]
          refine iteT ⟨_, rfl, (by show 2 ≤ sizeLine; decide), fun p np => ?_⟩
          exact k2 (fun ⟨b', hb', h1, h2⟩ => by rw [hb] at hb'; cases hb'; exact c2 h2) p _ _ _ (Ext.of_new np) upd_same (by decide +kernel)
      · refine ite_f c1 ⟨_, rfl, ?_⟩
        refine iteT ⟨_, rfl, (by show 2 ≤ sizeLine; decide), fun p np => ?_⟩
        exact k2 (fun ⟨b', hb', h1, h2⟩ => by rw [hb] at hb'; cases hb'; exact c1 h1) p _ _ _ (Ext.of_new np) upd_same (by decide +kernel)
/-! ### allowed -/
def spAllowed : Sp := fun vs H Q _ => ∃ (mv : V) (m : Mc) (s : Int), vs = [mv, .int s] ∧ McAt H mv m ∧ Mc.wf m ∧
  ∀ p us H', Ext H H' → H' p = some (.lst us) → CmsAt H' us (allowed m.cs s) → Q (.ref p) H'
theorem scAllowed : FnScope ["some_machine", "state", "command"] ["some_machine", "state"] (defScope sAllowed) := ⟨rfl, rfl, rfl, by decide +kernel, rfl, by decide +kernel, by decide +kernel⟩
theorem ok_allowed {f fH : Addr} {fd fdH : FuncData} (F : FnP K "allowed" "allowed" sAllowed f fd) (FH : FnP K "holds" "holds" sHolds fH fdH) (gH : mg "holds" = some (.ref fH)) : FnOk P w K mg base CX0 2 f fd ["some_machine", "state"] spAllowed := by
  have GH : FnOk P w K mg base CX0 1 fH fdH ["condition", "value"] spHolds := ok_holds FH gH
  have bH : Binds K fdH ["condition", "value"] [] := FH.bindsN fun _ _ _ _ _ _ us hl => match us, hl with | [_, _], _ => rfl
  refine F.ok scAllowed (fun vs H Q E h => ?_) (fun cdv A outer s H vs Q E hr h => ?_)
  · obtain ⟨mv, m, x, rfl, _⟩ := h
    rfl
  · obtain ⟨mv, m, x, rfl, hm, hw, q⟩ := h
    obtain ⟨ma, t, cvs, rfl, h1, h2, h3⟩ := hm
    refine ⟨_, PSs.nox (pss_one (ps_ret (pe_lc (own := [("command", 2)]) (g := gName 2) (by rfl) scAllowed.nd (pi_tup (pe_ix ix_tup (pv 0) pe_int (fun _ _ => rfl)))
      (blkOk_by (own := [("command", 2)]) (N := ["some_machine", "state", "command"]) (sc := defScope sAllowed) (by decide +kernel)) (fun _ _ _ _ _ => pg_name (i := 2) scAllowed.nd rfl (Or.inl rfl))
      (fun _ _ _ _ _ => pts_one (pt_val (pe_call GH hr rfl gH FH.kp bH .nil pass0 (pa_cons (pe_ix (r := rIxT K) ix_tup (pv 2) pe_int (fun _ _ => rfl)) (pa_cons (pv 1) pa_nil)))))
      (fun _ _ _ _ _ => pv 2)))), ?_⟩
    refine ⟨_, rfl, _, _, _, _, rfl, rfl, SqT.of h1, at_1, t, rfl, ⟨_, SqT.of h2⟩, fun D nD => ?_⟩
    have key : ∀ b o, H b = some o → ∀ acc, upd H D (.lst acc) b = some o := fun b o e acc => by rw [upd_ne (ne_of_none e nD)]; exact e
    refine lc_tup (K := K) (a := t) (xs := cvs) (fun i H' => ∃ acc, H' = upd H D (.lst acc) ∧ CmsAt H acc (allowed (m.cs.take i) x)) ⟨[], rfl, .nil⟩ (fun i H' _ ⟨acc, e, _⟩ => by rw [e]; exact SqT.of (key _ _ h2 acc)) ?_ ?_
    · rintro i cv H' hi ⟨acc, rfl, hacc⟩
      obtain ⟨c, hc, hcm⟩ := paired_get h3 hi
      obtain ⟨ca, gu, ge, rfl, g1, g2, g3⟩ := id hcm
      have hmem : c ∈ m.cs := List.mem_of_getElem? hc
      refine ⟨rfl, _, rfl, _, _, _, _, rfl, rfl, SqT.of (key _ _ g1 acc), at_1, _, rfl, gu, c.gd, x, rfl, (Ext.of_new nD).cd g2, (hw.cs c hmem).gd, _, rfl, ?_⟩
      have et := take_more hc
      cases e : c.gd.ok x with
      | true =>
        refine iteT ⟨_, rfl, acc, upd_same, ?_, acc ++ [.ref ca], upd_upd, ?_⟩
        · have l1 := paired_len hacc
          have l2 : (allowed (m.cs.take i) x).length ≤ m.cs.length := Nat.le_trans (List.length_filter_le _ _) (by rw [List.length_take]; omega)
          have := hw.few
          exact len_lt (by omega)
        · have e2 : allowed (m.cs.take (i + 1)) x = allowed (m.cs.take i) x ++ [c] := by
            unfold allowed
            rw [et, List.filter_append]
            simp [e]
          rw [e2]
          exact paired_snoc hacc hcm
      | false =>
        refine iteF ⟨acc, rfl, ?_⟩
        have e2 : allowed (m.cs.take (i + 1)) x = allowed (m.cs.take i) x := by
          unfold allowed
          rw [et, List.filter_append]
          simp [e]
        rw [e2]
        exact hacc
    · rintro H' ⟨acc, rfl, hacc⟩
      have hl := paired_len h3
      rw [hl, List.take_length] at hacc
      exact q D acc _ (Ext.of_new nD) upd_same ((Ext.of_new nD).cms hacc)
end
end Cr
set_option Elab.async false
set_option linter.all false
set_option maxRecDepth 100000
set_option maxHeartbeats 4000000
/-! Choicerows: Stop, an error whose __init__ calls its base's and stores what it is given: made, raised, read. -/
namespace Cr
open PySem PySem.Spec PyProof.Rows L2
/-- what the written part says of Stop, at C, and of its __init__, at fI -/
structure StopTxt (P : Program) (K : PySem.W.Frag) (mg : Str → Option Value) (C fI : Addr) : Prop where
  gC : mg "Stop" = some (.ref C)
  gS : mg "super" = none
  cls : ∃ nm q N bs sn sub ab col dd k0 k1 k2 k3 k5, K.lookup C = some (PySem.excClassObj nm q C N bs PySem.ESX.exTail true sn sub ab col dd k0 k1 k2 k3 k5 "Exception.__new__")
  sa : PySem.W.findIn K (.ref C) "__setattr__" = some (some (.builtin "object.__setattr__"))
  xf : XfC K C
  tyC : PySem.W.typeIn K (.ref C) = some (.type "type")
  kC : PySem.W.keepIn K (.ref C) = true
  iC : PySem.W.findIn K (.ref C) "__init__" = some (some (.ref fI))
  tI : PySem.W.typeIn K (.ref fI) = some (.type "function")
  noO : PySem.W.findIn K (.ref C) "outcome" = some none
  te : PySem.W.exmOne K (.ref C) (.ref C) = some true
  op : PySem.W.nsIn K cStatics "thirdparty.any" = some none
  fn : ∃ (oc : Value) (od : Option Addr) (kV doc pm : Value) (an : Option Addr) (cda : Addr) (ct : Value) (cc : Addr) (osl : Array (Option Value)),
    K.lookup fI = some ⟨oc, od, .func (PySem.W.ksFn "__init__" "Stop.__init__" (defArgs sStopInit) (defBody sStopInit) (defScope sStopInit) .none kV doc pm an (.ref cda) ct cc), osl⟩ ∧ PySem.W.codeIn K (.ref cda) "Stop.__init__" = true ∧
    (∃ ccl cdd vs ccs file tf, K.lookup cda = some ⟨ccl, cdd, .fields vs, ccs⟩ ∧ vs[2]? = some (.str file tf) ∧ ((P.main.file : Str) == file) = true) ∧
    ∃ cl cld csl, K.lookup cc = some ⟨cl, cld, .cell (some (.ref C)), csl⟩
/-- what __init__ leaves of a fresh exception at x -/
structure StopEnd (h h' : Heap) (x C dx t1 : Addr) (v : Value) : Prop where
  keep : ∀ b o, b ≠ x → h.get? b = some o → h'.get? b = some o
  obj : h'.get? x = some { cls := .ref C, dict := some dx, data := .fields #[.ref t1, .none, .none, .none, .bool false, .none] }
  dbig : h.objs.size ≤ dx
  dne : dx ≠ x
  ns : h'.Ns1 dx (fun y => if y = "outcome" then some v else none)
theorem s_self : (defScope sStopInit).names.lookup ("self" : Str) = some .local := by decide +kernel
theorem s_out : (defScope sStopInit).names.lookup ("outcome" : Str) = some .local := by decide +kernel
theorem s_super : (defScope sStopInit).names.lookup ("super" : Str) = some .globalImplicit := by decide +kernel
theorem s_cls : (defScope sStopInit).names.lookup ("__class__" : Str) = some .free := by decide +kernel
theorem s_nocell : ∀ y ∈ (defScope sStopInit).names, y.2 ≠ .cell := by decide +kernel
theorem boot_super : bootBuiltins "super" = some (.type "super") := by decide +kernel
section
open PySem.W PySem.Calls PyProof.Rows
variable {prog : Program} {w : World} {A : Around} {R : Result → Shared → Prop} {s : Shared} {K : Frag} {mg mb : Str → Option Value} {C fI : Addr}
theorem stop_init (T : StopTxt prog K mg C fI) {x t0 : Addr} {v : Value} (X : K.In s.heap) (hlim : s.heap.NoLimit) (hG : s.heap.Ns mainGlobals mg) (hB : s.heap.Ns builtinsNs mb) (hbb : ∀ x : Str, x ≠ "__name__" → mb x = bootBuiltins x)
    (htop : (prog.main.scope.names.lookup ("super" : Str)).isSome = false)
    (hx : s.heap.get? x = some (PySem.HandSPX.excO C t0)) (hKx : K.lookup x = none) (hroom : A.depth < recursionLimit)
    (hq : ∀ h' tk dx t1, StopEnd s.heap h' x C dx t1 v → R (.ok (.ret .none)) { s with heap := h', toks := tk }) :
    codeAny (model prog w) A (.call (.ref fI) ⟨[.ref x, v], []⟩) R s := by
  obtain ⟨oc, od, kV, doc, pm, an, cda, ct, cc, osl, ho, hcd, ⟨ccl, cdd, vs, ccs, file, tf, hcda, hvs, hfile⟩, ⟨cl, cld, csl, hcell⟩⟩ := T.fn
  obtain ⟨nm, q, N, bs, sn, sub, ab, col, dd, k0, k1, k2, k3, k5, hC⟩ := T.cls
  have hcl : clsIn K C = some { name := nm, bases := bs, mro := .ref C :: PySem.ESX.exTail, ns := N, qualname := q, hasDict := true, slotNames := sn, subclasses := sub, abstract := ab, collection := col, hasDel := false } := by unfold clsIn; rw [hC] <;> rfl
  have hnx : x ≠ C := fun z => by
    have e := X _ _ hC
    rw [← z, hx] at e
    cases e
  refine ks_codeAny_call_defAt (fd := ksFn "__init__" "Stop.__init__" (defArgs sStopInit) (defBody sStopInit) (defScope sStopInit) .none kV doc pm an (.ref cda) ct cc) (binds := [("self", .ref x), ("outcome", v)]) hroom (X _ _ ho) rfl hlim (codeRec_of X hcd) rfl (BindsTo.of_eq rfl) s_nocell (fun y hy => ?_) (fun h₁ hn k => ?_) rfl rfl rfl
  · rcases List.mem_cons.mp hy with e | hy
    · rw [e]; exact s_self
    · have e : y = (("outcome" : Str), v) := by simpa using hy
      rw [e]; exact s_out
  have X₁ : K.In h₁ := X.keeps k
  have hx₁ := k _ _ hx
  have G₁ := hG.keeps k
  have B₁ := hB.keeps k
  have hself : (fun y => ([("self", Value.ref x), ("outcome", v)] : List (Str × Value)).reverse.lookup y) ("self" : Str) = some (.ref x) := by
    show List.lookup ("self" : Str) [(("outcome" : Str), v), ("self", .ref x)] = _
    rw [List.lookup_cons]
    have : (("self" : Str) == ("outcome" : Str)) = false := by decide +kernel
    rw [this]
    rfl
  have hout : (fun y => ([("self", Value.ref x), ("outcome", v)] : List (Str × Value)).reverse.lookup y) ("outcome" : Str) = some v := by
    show List.lookup ("outcome" : Str) [(("outcome" : Str), v), ("self", .ref x)] = _
    rw [List.lookup_cons]
    have : (("outcome" : Str) == ("outcome" : Str)) = true := by decide +kernel
    rw [this]
  obtain ⟨hp, gs, dr, tk, os⟩ := s
  have hsx : hp.objs.size ≠ x := Nat.ne_of_gt (Heap.lt_size hx)
  have sz1 : hp.objs.size ≤ h₁.objs.size := Nat.le_of_lt (let ⟨_, _, _, e, _⟩ := hn; Heap.lt_size e)
  -- super().__init__('stop')
  refine ks_wpAt_execs_cons (ks_wpAt_Expr_any (ks_wpAt_MethodCall ?_) (by first | rfl | kernel_rfl) (by first | rfl | kernel_rfl))
  refine ks_wpAt_super_base s_super s_cls (by decide +kernel) rfl (X₁ _ _ ho) rfl rfl rfl (X₁ _ _ hcda) rfl hvs hfile htop ?_
  refine ks_loadName_global rfl s_super (loadGlobal_builtin (mg := mg) (mb := mb) G₁ T.gS B₁ ((hbb _ (by decide +kernel)).trans boot_super) ⟨rfl, ?_⟩)
  refine wpAny_loadName_free rfl s_cls rfl ⟨_, X₁ _ _ hcell, rfl⟩ ?_
  refine wpAny_loadName_local rfl s_self hn hself ?_
  refine ks_wpAny_isType_cls (X₁ _ _ hC) rfl ⟨rfl, ?_⟩
  have hsub : mroIn K C (.ref C) = some true := PySem.ESX.mro_has hcl rfl (by simp)
  refine ks_wpAny_call_super (X₁ _ _ hC) rfl hx₁ rfl (fun c z => by cases z) (looks_mroIn X₁ hsub) (fun h₂ e₂ k₂ => ?_)
  have X₂ := X₁.keeps k₂
  have hx₂ := k₂ _ _ hx₁
  have I₂ : InstAt h₂ x (PySem.HandSPX.excO C t0) C none := ⟨hx₂, rfl, rfl, trivial⟩
  have hin : Looks (model prog w) h₂ (isInstance (.ref x) (.type "Exception")) true := I₂.type.andThen (looks_mroIn X₂ (PySem.ESX.mro_has hcl rfl (PySem.ESX.tail_has "Exception" (by decide +kernel))))
  have hC2 : Looks (model prog w) h₂ (mroOf (.ref C)) (.ref C :: PySem.ESX.exTail) := (looks_clsIn X₂ hcl).andThen .now
  refine PySem.ESX.getMethod_super e₂ (looks_opaque X₂ T.op) hC2 (PySem.ESX.drop_own C _) X₂ (PySem.ESX.along_init K) hnx (by decide +kernel) hin ?_
  have k₃ : ∀ b o, h₂.get? b = some o → (h₂.push (PySem.ESX.bw x)).get? b = some o := fun b o e => Heap.get?_push_of_some _ e
  refine PySem.ESX.callWith_bound (u := h₂.objs.size) (x := x) ?_ rfl rfl
  refine Calls.spliced_cons ?_
  refine Calls.Constant_str (env := callEnv (ksFn "__init__" "Stop.__init__" (defArgs sStopInit) (defBody sStopInit) (defScope sStopInit) .none kV doc pm an (.ref cda) ct cc) hp.objs.size fI) (x := "stop") (k := 0) (pos := ⟨83, 25, 83, 31⟩) ?_
  refine Calls.spliced_nil ⟨Heap.get?_push_size _ rfl, ?_⟩
  refine PySem.ESX.call_bw (e := x) (t0 := t0) (k₃ _ _ (X₂ _ _ hC)) (k₃ _ _ hx₂) (Heap.get?_push_size _ rfl) (by show 1 ≤ sizeLine; decide) fun h₄ t1 k₄ hx₄ => ?_
  have kk : ∀ b o, b ≠ x → h₁.get? b = some o → h₄.get? b = some o := fun b o hb e => k₄ b o hb (k₃ b o (k₂ b o e))
  have X₄ : K.In h₄ := fun b o e => kk b o (fun z => by rw [z, hKx] at e; cases e) (X₁ _ _ e)
  obtain ⟨oL, es, ep, hoL, hnr⟩ := hn
  have hn₄ : h₄.Ns hp.objs.size (fun y => ([("self", Value.ref x), ("outcome", v)] : List (Str × Value)).reverse.lookup y) := ⟨oL, es, ep, kk _ _ hsx hoL, hnr⟩
  -- self.outcome = outcome
  refine ks_wpAt_execs_cons (ks_wpAt_Assign_Attr (wpAt_of_wpAny (wpAny_Name (wpAny_loadName_local rfl s_out hn₄ hout ?_) (by decide +kernel))) (by first | rfl | kernel_rfl))
  refine wpAny_Name (wpAny_loadName_local rfl s_self hn₄ hself ?_) (by decide +kernel)
  refine set_plain X₄ (ox := PySem.HandSPX.excO C t1) (od := none) ⟨hx₄, rfl, rfl, trivial⟩ T.sa ?_
  refine PySem.ESX.osa_new X₄ hx₄ hcl rfl rfl T.noO (fun h₅ tk₅ dx k₅ dn dne hx₅ hn₅ => ?_)
  have e4 : hp.objs.size ≤ h₄.objs.size := Nat.le_of_lt (Heap.lt_size (kk _ _ hsx hoL))
  exact wpAt_of_wpAny (wpAny_execs_nil (hq h₅ tk₅ dx t1 ⟨fun b o hb e => k₅ b o hb (kk b o hb (k b o e)), hx₅, Nat.le_trans e4 dn, dne, hn₅⟩))
/-- a made Stop -/
structure StopMade (h h' : Heap) (e C d : Addr) (v : Value) : Prop where
  keep : ∀ b o, h.get? b = some o → h'.get? b = some o
  new : h.objs.size ≤ e
  obj : ∃ oe vs, h'.get? e = some oe ∧ oe.cls = .ref C ∧ oe.dict = some d ∧ oe.data = .fields vs ∧ vs[1]? = some .none
  dbig : h.objs.size ≤ d
  dne : d ≠ e
  ns : h'.Ns1 d (fun y => if y = "outcome" then some v else none)
theorem stop_made (T : StopTxt prog K mg C fI) {v : Value} (X : K.In s.heap) (hlim : s.heap.NoLimit) (hG : s.heap.Ns mainGlobals mg) (hB : s.heap.Ns builtinsNs mb) (hbb : ∀ x : Str, x ≠ "__name__" → mb x = bootBuiltins x)
    (htop : (prog.main.scope.names.lookup ("super" : Str)).isSome = false) (hroom : A.depth + 1 < recursionLimit)
    (hq : ∀ h' tk e d, StopMade s.heap h' e C d v → R (.ok (.ret (.ref e))) { s with heap := h', toks := tk }) :
    codeAny (model prog w) A (.call (.ref C) ⟨[v], []⟩) R s := by
  obtain ⟨nm, q, N, bs, sn, sub, ab, col, dd, k0, k1, k2, k3, k5, hC⟩ := T.cls
  obtain ⟨hp, g, dr, tk, os⟩ := s
  have k : ∀ b o, hp.get? b = some o → ((hp.push (kdv_tup [v])).push (PySem.HandSPX.excO C hp.objs.size)).get? b = some o := fun b o e => Heap.get?_push_of_some _ (Heap.get?_push_of_some _ e)
  have hget : ((hp.push (kdv_tup [v])).push (PySem.HandSPX.excO C hp.objs.size)).get? (hp.objs.size + 1) = some (PySem.HandSPX.excO C hp.objs.size) := by heap_get
  have hnx : K.lookup (hp.objs.size + 1) = none := by
    cases e : K.lookup (hp.objs.size + 1) with
    | none => rfl
    | some o =>
      have z : hp.get? (hp.objs.size + 1) = some o := X _ _ e
      exact absurd (Nat.lt_of_succ_lt (Heap.lt_size z)) (Nat.lt_irrefl _)
  refine PySem.HandSPX.call_own F.excBase_Exception (fun X => rfl) (X _ _ hC) (looks_findIn X T.iC) (fun self => bind_fn X self T.tI) (by show 1 ≤ sizeLine; decide) ?_
  refine stop_init (mg := mg) (mb := mb) (s := ⟨(hp.push (kdv_tup [v])).push (PySem.HandSPX.excO C hp.objs.size), g, dr, tk, os⟩) T (X.keeps k) (hlim.keeps k) (hG.keeps k) (hB.keeps k) hbb htop hget hnx ?_ fun h' tk' dx t1 M => ?_
  · show A.depth + 1 < recursionLimit
    exact hroom
  · have old : ∀ b o, hp.get? b = some o → h'.get? b = some o := fun b o e => M.keep b o (Nat.ne_of_lt (Nat.lt_succ_of_lt (Heap.lt_size e))) (k b o e)
    have z : hp.objs.size + 1 + 1 ≤ dx := by
      have q := M.dbig
      first
        | exact q
        | (rw [Heap.size_push, Heap.size_push] at q; exact q)
    exact ⟨rfl, hq h' tk' (hp.objs.size + 1) dx ⟨old, Nat.le_succ _, ⟨_, _, M.obj, rfl, rfl, rfl, rfl⟩, Nat.le_trans (Nat.le_trans (Nat.le_succ _) (Nat.le_succ _)) z, M.dne, M.ns⟩⟩
end
/-! ### over the layer -/
theorem relO_out {v : V} {u : Value} (r : RelV v u) (f : Str) : RelO (List.lookup f [(("outcome" : Str), v)]) (if f = "outcome" then some u else none) := by
  by_cases hw : f = "outcome"
  · subst hw
    rw [if_pos rfl]
    have q : List.lookup ("outcome" : Str) [(("outcome" : Str), v)] = some v := by simp [List.lookup]
    rw [q]
    exact r
  · rw [if_neg hw]
    have qw : (f == ("outcome" : Str)) = false := by simpa using hw
    have q2 : List.lookup f [(("outcome" : Str), v)] = none := by simp [List.lookup, qw]
    rw [q2]
    trivial
section
variable {X : Cx} {C fI : Addr}
/-- Stop(e) -/
def tMkStop (C : Addr) (ta : TA) : L2.St → Hp → XK → Prop := fun σ H Q => ta σ H fun vs H1 => ∃ v, vs = [v] ∧ ∀ d, H1 d = none → Q (.ref C) (some d) (upd H1 d (.xd [(("outcome" : Str), v)]))
theorem pmk_stop {a : Expr} {ta : TA} {p pos : Pos} {k : Nat} (T : StopTxt X.prog X.K X.mg C fI) (htop : (X.prog.main.scope.names.lookup ("super" : Str)).isSome = false) (hr : Room k X.A) (ha : PA X [a] ta) (hg : Gl X "Stop" := by rfl)
    (he : starEach (a :: []) X.env = (false, eval a X.env) :: starEach [] X.env := by rfl) (hpl : (backTo pos (starEach [] X.env)).any (·.1) = false := by rfl) :
    PMk X (.Call (.Name "Stop" p) [a] [] pos) (tMkStop C ta) := by
  intro pins s σ H Q I h
  refine wpAny_Call_Name_kw (ld_glob I hg T.gC ?_)
  refine PySem.W.callWith_K (h₀ := X.base) I.ok.mod.kin T.kC (thn (ha.run pos pins s σ H _ I h) fun us s1 hh => ?_) he hpl
  obtain ⟨vs, H1, I1, r1, v, ev, q1⟩ := hh
  subst ev
  refine ⟨I1.kIn, ?_⟩
  cases r1 with
  | cons rv rn =>
    rename_i v' us'
    cases rn
    show wpAny _ _ (call (.ref C) [v']) _ _ _
    have hlim := I1.nolimit
    obtain ⟨mb, hB0, hbb⟩ := I1.mod.blt
    have hB := hB0.keeps I1.bk
    have hG := I1.mod.glob.keeps I1.bk
    have hX := I1.kIn
    obtain ⟨hp, g, dr, tk, os⟩ := s1
    refine wpAny_call (stop_made T hX hlim hG hB hbb htop (by have := hr.dp; omega) fun h' tk' e d M => ?_)
    show MkP X pins σ Q (.ref e) ⟨h', g, dr, tk', os⟩
    obtain ⟨oe, fv, hoe, hc, hd, hdat, h1⟩ := M.obj
    have hns := M.ns
    obtain ⟨G', g1, g2⟩ := restrict h' fun b => decide (b ≠ e)
    have gk : ∀ b, b ≠ e → G'.get? b = h'.get? b := fun b hb => g1 b (decide_eq_true hb)
    have ge : G'.get? e = none := g2 e (by simp)
    have old : ∀ b o, hp.get? b = some o → G'.get? b = some o := fun b o q => (gk b (Nat.ne_of_lt (Nat.lt_of_lt_of_le (Heap.lt_size q) M.new))).trans (M.keep b o q)
    have ob : ObjOk X.prog X.w (upd H1 d (.xd [(("outcome" : Str), v)])) G' d (.xd [(("outcome" : Str), v)]) :=
      ⟨_, hns.at (fun o q => (gk d M.dne).trans q), fun f => relO_out rv f⟩
    have J : Inv X pins σ (upd H1 d (.xd [(("outcome" : Str), v)])) ⟨G', g, dr, tk', os⟩ := I1.laid (t' := tk') old M.dbig ob
    refine ⟨e, oe, fv, ⟨G', g, dr, tk', os⟩, _, .ref C, some d, rfl, J, fun b o q => ?_, ge, hoe, ⟨hc, hd⟩, hdat, h1, ?_, rfl, I1.bare, raises_own T.xf.exC T.tyC, q1 d (I1.hok.fresh M.dbig)⟩
    · by_cases hb : b = e
      · have q' : G'.get? b = some o := q
        rw [hb, ge] at q'; cases q'
      · exact (gk b hb).symm.trans q
    · rw [upd_ne (Ne.symm M.dne)]
      exact I1.hok.fresh M.new
/-- raise Stop(e) -/
def tRaiseStop (C : Addr) (W : WX) (ta : TA) : TS := fun _ σ H => tMkStop C ta σ H fun cls d H' => W cls d σ H'
theorem ps_raiseStop {a : Expr} {ta : TA} {W : WX} {p pos pos2 : Pos} {k : Nat} (hc : X.calm = true) (T : StopTxt X.prog X.K X.mg C fI) (htop : (X.prog.main.scope.names.lookup ("super" : Str)).isSome = false) (hr : Room k X.A) (tk : Takes X W) (ha : PA X [a] ta) (hg : Gl X "Stop" := by rfl)
    (he : starEach (a :: []) X.env = (false, eval a X.env) :: starEach [] X.env := by rfl) (hpl : (backTo pos (starEach [] X.env)).any (·.1) = false := by rfl) :
    PS X (.Raise (some (.Call (.Name "Stop" p) [a] [] pos)) none pos2) (tRaiseStop C W ta) := ps_raise hc tk (pmk_stop T htop hr ha hg he hpl)
end
end Cr
set_option Elab.async false
set_option linter.all false
set_option maxRecDepth 100000
set_option maxHeartbeats 4000000
/-! Choicerows: drawing: the object that draws, its methods, draw. -/
namespace Cr
open PySem PySem.Spec PyProof.Rows L2 CRM
variable [Tb]
/-! ### the object -/
theorem k_ru : ¬ (("row" : Str) = "used") := by decide +kernel
def dfl (r : Addr) (u : Int) : List (Str × V) := putF "used" (.int u) (putF "row" (.ref r) [])
theorem dfl_eq (r : Addr) (u : Int) : dfl r u = ([("row", V.ref r), ("used", V.int u)] : List (Str × V)) := by
  show (if ("row" : Str) = "used" then [(("used" : Str), V.int u)] else (("row" : Str), V.ref r) :: putF "used" (V.int u) []) = ([("row", V.ref r), ("used", V.int u)] : List (Str × V))
  rw [if_neg k_ru]
  all_goals rfl
theorem dfl_row (r : Addr) (u : Int) : (dfl r u).lookup ("row" : Str) = some (.ref r) := by
  unfold dfl
  rw [lookup_putF, if_neg k_ru, lookup_putF, if_pos rfl]
theorem dfl_used (r : Addr) (u : Int) : (dfl r u).lookup ("used" : Str) = some (.int u) := by
  unfold dfl
  rw [lookup_putF, if_pos rfl]
theorem dfl_no (r : Addr) (u : Int) {m : Str} (h1 : ¬ m = "used") (h2 : ¬ m = "row") : (dfl r u).lookup m = none := by
  unfold dfl
  rw [lookup_putF, if_neg h1, lookup_putF, if_neg h2]
  all_goals rfl
theorem dfl_put (r : Addr) (u y : Int) : putF "used" (.int y) (dfl r u) = dfl r y := by
  rw [dfl_eq, dfl_eq]
  show (if ("row" : Str) = "used" then _ else (("row" : Str), V.ref r) :: (if ("used" : Str) = "used" then [(("used" : Str), V.int y)] else _)) = ([("row", V.ref r), ("used", V.int y)] : List (Str × V))
  rw [if_neg k_ru, if_pos rfl]
structure DrawTxt (K : PySem.W.Frag) (mg : Str → Option Value) (C fc fr fk fv : Addr) : Prop where
  cl : Cls K C
  nR : NoAttr K C "row"
  nU : NoAttr K C "used"
  mc : Meth K C "choice" fc
  mr : Meth K C "refuse" fr
  mkp : Meth K C "kept" fk
  mv : Meth K C "value" fv
  gC : mg "Draw" = some (.ref C)
/-- an error's way out: Stop, its outcome a pair that is no value; the drawing object has used u' choices -/
def Outs (CS C p dx r : Addr) (H : Hp) (E : XK) : Prop := ∀ (u' : Int) (t d : Addr) (z : Str) (n : Int) (H' : Hp), ¬ z = "value" → Ext (upd H p (.ins C dx (dfl r u'))) H' → H' t = some (.tup [.str z, .int n]) → H' d = some (.xd [(("outcome" : Str), .ref t)]) → E (.ref CS) (some d) H'
section
variable {P : Program} {w : World} {K : PySem.W.Frag} {mg : Str → Option Value} {base : Heap} {CS fS C fc fr fk fv : Addr}
/-! ### __init__ -/
def spDInit (C : Addr) : Sp := fun vs H Q _ => ∃ (p dx r : Addr), vs = [.ref p, .ref r] ∧ H p = some (.ins C dx []) ∧ Q .non (upd H p (.ins C dx (dfl r 0)))
theorem scDInit : FnScope ["self", "row"] ["self", "row"] (defScope sDInit) := ⟨rfl, rfl, rfl, by decide +kernel, rfl, by decide +kernel, by decide +kernel⟩
theorem ok_dinit {f : Addr} {fd : FuncData} (F : FnP K "__init__" "Draw.__init__" sDInit f fd) (T : DrawTxt K mg C fc fr fk fv) : FnOk P w K mg base CX0 1 f fd ["self", "row"] (spDInit C) := by
  refine F.ok scDInit (fun vs H Q E h => ?_) (fun cdv A outer s H vs Q E hr h => ?_)
  · obtain ⟨p, dx, r, rfl, _⟩ := h
    rfl
  · obtain ⟨p, dx, r, rfl, hp, q⟩ := h
    refine ⟨_, PSs.nox (pss_cons (ps_fld (pv 0) (pv 1) rfl) (pss_one (ps_fld (pv 0) pe_int rfl))), ?_⟩
    refine ⟨_, rfl, _, rfl, p, C, dx, [], rfl, hp, T.cl, T.nR, (by show 0 < 1000; decide), _, rfl, p, C, dx, _, rfl, upd_same, T.cl, T.nU, (by show 1 < 1000; decide), ?_⟩
    rw [upd_upd]
    exact q
/-! ### choice -/
def spChoice (CS C : Addr) : Sp := fun vs H Q E => ∃ (p dx r : Addr) (row : List Int) (u : Nat) (b : Int), vs = [.ref p, .int b] ∧ H p = some (.ins C dx (dfl r (u : Int))) ∧ RowAt H r row ∧ row.length ≤ 1000 ∧
  (∀ c, row[u]? = some c → 0 ≤ c → c ≤ b → Q (.int c) (upd H p (.ins C dx (dfl r ((u : Int) + 1))))) ∧
  ((¬ ∃ c, row[u]? = some c ∧ 0 ≤ c ∧ c ≤ b) → Outs CS C p dx r H E)
theorem scChoice : FnScope ["self", "bound", "found"] ["self", "bound"] (defScope sDChoice) := ⟨rfl, rfl, rfl, by decide +kernel, rfl, by decide +kernel, by decide +kernel⟩
theorem upd_id {H : Hp} {a : Addr} {o : HO} (h : H a = some o) : upd H a o = H := by
  funext b
  by_cases c : b = a
  · rw [c, upd_same, h]
  · rw [upd_ne c]
theorem ok_choice {f : Addr} {fd : FuncData} (F : FnP K "choice" "Draw.choice" sDChoice f fd) (T : DrawTxt K mg C fc fr fk fv) (TS : StopTxt P K mg CS fS) (htop : (P.main.scope.names.lookup ("super" : Str)).isSome = false) (hlen : mg "len" = none) :
    FnOk P w K mg base (L2.CX P w) 3 f fd ["self", "bound"] (spChoice CS C) := by
  refine F.ok scChoice (fun vs H Q E h => ?_) (fun cdv A outer s H vs Q E hr h => ?_)
  · obtain ⟨p, dx, r, row, u, b, rfl, _⟩ := h
    rfl
  · obtain ⟨p, dx, r, row, u, b, rfl, hp, hrow, hz, k1, k2⟩ := h
    refine ⟨_, pss_cons (ps_if (pt_cmpR op_ge (pe_fld (pv 0) rfl) (pe_callB call_len_seq (by rfl) hlen PySem.boot_len (pa_cons (pe_fld (pv 0) rfl) pa_nil)) (nomark _))
        (pss_one (ps_raiseStop rfl TS htop hr (takes_of rfl rfl rfl rfl) (by exact (pa_cons (pe_tup (pa_cons pe_str (pa_cons (pe_callB call_len_seq (by rfl) hlen PySem.boot_len (pa_cons (pe_fld (pv 0) rfl) pa_nil)) pa_nil))) pa_nil)))) pss_nil)
      (pss_cons (ps_set (i := 2) scChoice.nd rfl (Or.inl rfl) (pe_ix ix_tup (pe_fld (pv 0) rfl) (pe_fld (pv 0) rfl) (fun _ _ => rfl)))
      (pss_cons (ps_if (pt_not (pt_chain op_le op_le pe_int (pv 2) (pv 1)))
        (pss_one (ps_raiseStop rfl TS htop hr (takes_of rfl rfl rfl rfl) (by exact (pa_cons (pe_tup (pa_cons pe_str (pa_cons (pe_fld (pv 0) rfl) pa_nil))) pa_nil)))) pss_nil)
      (pss_cons (ps_fld (pv 0) (pe_op op_add (pe_fld (pv 0) rfl) pe_int) rfl)
      (pss_one (ps_ret (pv 2)))))), ?_⟩
    have hl : (row.map V.int).length = row.length := List.length_map ..
    refine ⟨_, rfl, p, C, dx, _, _, rfl, hp, T.cl, T.nU, dfl_used _ _, _, rfl, p, C, dx, _, _, rfl, hp, T.cl, T.nR, dfl_row _ _, _, _, rfl, .inr (SqT.of hrow), _, _, rfl, rfl, _, rfl, ?_⟩
    rw [hl]
    have eH : upd H p (.ins C dx (dfl r (u : Int))) = H := upd_id hp
    by_cases c : (row.length : Int) ≤ (u : Int)
    · refine ite_t c ?_
      refine ⟨_, rfl, p, C, dx, _, _, rfl, hp, T.cl, T.nR, dfl_row _ _, _, _, rfl, .inr (SqT.of hrow), (by show 2 ≤ sizeLine; decide), fun t nt => ⟨_, rfl, fun d nd => ?_⟩⟩
      have ndt : t ≠ d := ne_of_none upd_same nd
      refine k2 (fun ⟨x, hx, _⟩ => by have := (List.getElem?_eq_some_iff.mp hx).1; omega) (u : Int) t d "short" _ _ (by decide +kernel) ?_ (by rw [upd_ne ndt]; exact upd_same) upd_same
      rw [eH]
      exact (Ext.of_new nt).new nd
    · refine ite_f c ?_
      obtain ⟨x, hx⟩ : ∃ x, row[u]? = some x := ⟨_, List.getElem?_eq_getElem (by omega)⟩
      refine ⟨_, rfl, p, C, dx, _, _, rfl, hp, T.cl, T.nR, dfl_row _ _, _, rfl, p, C, dx, _, _, rfl, hp, T.cl, T.nU, dfl_used _ _, r, _, _, _, rfl, rfl, SqT.of hrow, atI_nat (by rw [List.getElem?_map, hx]; rfl), ?_⟩
      have bad : ¬ (0 ≤ x ∧ x ≤ b) → ∀ t d, H t = none → (upd H t (.tup [.str "wrong", .int (u : Int)])) d = none → E (.ref CS) (some d) (upd (upd H t (.tup [.str "wrong", .int (u : Int)])) d (.xd [(("outcome" : Str), .ref t)])) := fun hb t d nt nd => by
        have ndt : t ≠ d := ne_of_none upd_same nd
        refine k2 (fun ⟨y, hy, h1, h2⟩ => by rw [hx] at hy; cases hy; exact hb ⟨h1, h2⟩) (u : Int) t d "wrong" _ _ (by decide +kernel) ?_ (by rw [upd_ne ndt]; exact upd_same) upd_same
        rw [eH]
        exact (Ext.of_new nt).new nd
      refine ⟨_, rfl, _, _, rfl, rfl, _, rfl, ?_⟩
      by_cases c1 : 0 ≤ x
      · refine ite_t c1 ⟨_, rfl, _, _, rfl, rfl, _, rfl, ?_⟩
        by_cases c2 : x ≤ b
        · rw [decide_eq_true c2]
          refine iteF ⟨_, rfl, p, C, dx, _, _, rfl, hp, T.cl, T.nU, dfl_used _ _, _, _, rfl, rfl, _, rfl, p, C, dx, _, rfl, hp, T.cl, T.nU, (by rw [dfl_eq]; show 2 < 1000; decide), _, rfl, ?_⟩
          rw [dfl_put]
          exact k1 x hx c1 c2
        · rw [decide_eq_false c2]
          refine iteT ⟨_, rfl, p, C, dx, _, _, rfl, hp, T.cl, T.nU, dfl_used _ _, (by show 2 ≤ sizeLine; decide), fun t nt => ⟨_, rfl, fun d nd => ?_⟩⟩
          exact bad (fun h => c2 h.2) t d nt nd
      · refine ite_f c1 ⟨_, rfl, ?_⟩
        refine iteT ⟨_, rfl, p, C, dx, _, _, rfl, hp, T.cl, T.nU, dfl_used _ _, (by show 2 ≤ sizeLine; decide), fun t nt => ⟨_, rfl, fun d nd => ?_⟩⟩
        exact bad (fun h => c1 h.1) t d nt nd
/-! ### refuse -/
def spRefuse (CS C : Addr) : Sp := fun vs H Q E => ∃ (p dx r : Addr) (u : Nat), vs = [.ref p] ∧ H p = some (.ins C dx (dfl r (u : Int))) ∧ Outs CS C p dx r H E
theorem scRefuse : FnScope ["self"] ["self"] (defScope sDRefuse) := ⟨rfl, rfl, rfl, by decide +kernel, rfl, by decide +kernel, by decide +kernel⟩
theorem ok_refuse {f : Addr} {fd : FuncData} (F : FnP K "refuse" "Draw.refuse" sDRefuse f fd) (T : DrawTxt K mg C fc fr fk fv) (TS : StopTxt P K mg CS fS) (htop : (P.main.scope.names.lookup ("super" : Str)).isSome = false) :
    FnOk P w K mg base (L2.CX P w) 3 f fd ["self"] (spRefuse CS C) := by
  refine F.ok scRefuse (fun vs H Q E h => ?_) (fun cdv A outer s H vs Q E hr h => ?_)
  · obtain ⟨p, dx, r, u, rfl, _⟩ := h
    rfl
  · obtain ⟨p, dx, r, u, rfl, hp, k⟩ := h
    refine ⟨_, pss_one (ps_raiseStop rfl TS htop hr (takes_of rfl rfl rfl rfl) (by exact (pa_cons (pe_tup (pa_cons pe_str (pa_cons (pe_fld (pv 0) rfl) pa_nil))) pa_nil))), ?_⟩
    refine ⟨_, rfl, p, C, dx, _, _, rfl, hp, T.cl, T.nU, dfl_used _ _, (by show 2 ≤ sizeLine; decide), fun t nt => ⟨_, rfl, fun d nd => ?_⟩⟩
    have ndt : t ≠ d := ne_of_none upd_same nd
    refine k (u : Int) t d "refused" _ _ (by decide +kernel) ?_ (by rw [upd_ne ndt]; exact upd_same) upd_same
    rw [upd_id hp]
    exact (Ext.of_new nt).new nd
/-! ### value of an int drawer -/
/-- the value that the drawer g draws, one choice used; or Stop -/
def spValue (CS C : Addr) (A : Gn → Prop) : Sp := fun vs H Q E => ∃ (p dx r : Addr) (row : List Int) (u : Nat) (gv : V) (g : Gn), vs = [.ref p, gv] ∧ H p = some (.ins C dx (dfl r (u : Int))) ∧ RowAt H r row ∧ row.length ≤ 1000 ∧ GnAt H gv g ∧ Gn.wf g ∧ A g ∧
  (∀ c v, row[u]? = some c → g.val c = some v → Q (.int v) (upd H p (.ins C dx (dfl r ((u : Int) + 1))))) ∧
  ((¬ ∃ c v, row[u]? = some c ∧ g.val c = some v) → Outs CS C p dx r H E)
theorem scValue : FnScope ["self", "generator", "name"] ["self", "generator"] (defScope sDValue) := ⟨rfl, rfl, rfl, by decide +kernel, rfl, by decide +kernel, by decide +kernel⟩
theorem ok_valueI {f fdc : _} {fd : FuncData} (F : FnP K "value" "Draw.value" sDValue f fd) (T : DrawTxt K mg C fc fr fk fv) (FC : FnOk P w K mg base (L2.CX P w) 3 fc fdc ["self", "bound"] (spChoice CS C)) (bC : Binds K fdc ["self", "bound"] []) :
    FnOk P w K mg base (L2.CX P w) 4 f fd ["self", "generator"] (spValue CS C fun g => g.kc = none) := by
  refine F.ok scValue (fun vs H Q E h => ?_) (fun cdv A outer s H vs Q E hr h => ?_)
  · obtain ⟨p, dx, r, row, u, gv, g, rfl, _⟩ := h
    rfl
  · obtain ⟨p, dx, r, row, u, gv, g, rfl, hp, hrow, hz, hg, hw, hk, k1, k2⟩ := h
    unfold GnAt at hg
    rw [hk] at hg
    obtain ⟨ga, rfl, h1⟩ := hg
    refine ⟨_, pss_cons (ps_set (i := 2) scValue.nd rfl (Or.inl rfl) (pe_ix ix_tup (pv 1) pe_int (fun _ _ => rfl)))
      (pss_cons (ps_if (pt_cmpR op_eq (pv 2) pe_str (nomark _)) (pss_one (ps_ret (pe_op op_add (pe_ix ix_tup (pv 1) pe_int (fun _ _ => rfl))
        (pe_meth (E := E) (pv 0) T.cl T.mc FC hr bC .nil (passes_call (takes_of rfl rfl rfl rfl) fun _ _ _ _ h => h) (pa_cons (pe_op op_sub (pe_ix ix_tup (pv 1) pe_int (fun _ _ => rfl)) (pe_ix ix_tup (pv 1) pe_int (fun _ _ => rfl))) pa_nil))))) pss_nil)
      pss_never), ?_⟩
    refine ⟨_, rfl, _, _, _, _, rfl, rfl, SqT.of h1, at_0, _, rfl, rfl, _, rfl, ?_⟩
    refine ite_t (by decide +kernel) ?_
    refine ⟨_, rfl, _, _, _, _, rfl, rfl, SqT.of h1, at_1, _, rfl, p, dx, _, rfl, hp, dfl_no _ _ (by decide +kernel) (by decide +kernel), _, rfl, _, _, _, _, rfl, rfl, SqT.of h1, at_2, _, rfl, _, _, _, _, rfl, rfl, SqT.of h1, at_1, _, _, rfl, rfl, ?_⟩
    have vl : ∀ c, 0 ≤ c → c ≤ g.hi - g.lo → g.val c = some (g.lo + c) := fun c a b => by
      unfold Gn.val Gn.keeps
      rw [if_pos ⟨a, b⟩, hk]
      rfl
    refine ⟨p, dx, r, row, u, _, rfl, hp, hrow, hz, fun c hc a b => ⟨_, _, rfl, rfl, k1 c _ hc (vl c a b)⟩, fun hn => ?_⟩
    refine k2 fun ⟨c, v, hc, hv⟩ => hn ⟨c, hc, ?_⟩
    unfold Gn.val at hv
    by_cases q : 0 ≤ c ∧ c ≤ g.hi - g.lo
    · exact q
    · rw [if_neg q] at hv; cases hv
/-! ### kept -/
def spKept (CS C : Addr) : Sp := spValue CS C fun g => g.kc ≠ none
theorem scKept : FnScope ["self", "generator", "found"] ["self", "generator"] (defScope sDKept) := ⟨rfl, rfl, rfl, by decide +kernel, rfl, by decide +kernel, by decide +kernel⟩
theorem Outs.more {CS C p dx r : Addr} {H : Hp} {E : XK} {o : HO} (h : Outs CS C p dx r H E) : Outs CS C p dx r (upd H p o) E := fun u' t d z n H' a e => h u' t d z n H' a (by rw [upd_upd] at e; exact e)
theorem ok_kept {f fH : Addr} {fdv fdr fd fdH : FuncData} (F : FnP K "kept" "Draw.kept" sDKept f fd) (T : DrawTxt K mg C fc fr fk fv) (FV : FnOk P w K mg base (L2.CX P w) 4 fv fdv ["self", "generator"] (spValue CS C fun g => g.kc = none)) (bV : Binds K fdv ["self", "generator"] [])
    (FR : FnOk P w K mg base (L2.CX P w) 3 fr fdr ["self"] (spRefuse CS C)) (bR : Binds K fdr ["self"] []) (FH : FnP K "holds" "holds" sHolds fH fdH) (gH : mg "holds" = some (.ref fH)) :
    FnOk P w K mg base (L2.CX P w) 5 f fd ["self", "generator"] (spKept CS C) := by
  have GH : FnOk P w K mg base CX0 1 fH fdH ["condition", "value"] spHolds := ok_holds FH gH
  have bH : Binds K fdH ["condition", "value"] [] := FH.bindsN fun _ _ _ _ _ _ us hl => match us, hl with | [_, _], _ => rfl
  refine F.ok scKept (fun vs H Q E h => ?_) (fun cdv A outer s H vs Q E hr h => ?_)
  · obtain ⟨p, dx, r, row, u, gv, g, rfl, _⟩ := h
    rfl
  · obtain ⟨p, dx, r, row, u, gv, g, rfl, hp, hrow, hz, hg, hw, hk, k1, k2⟩ := h
    unfold GnAt at hg
    cases hc : g.kc with
    | none => exact absurd hc hk
    | some cd =>
      rw [hc] at hg
      obtain ⟨ga, ug, wc, rfl, h1, h2, h3⟩ := hg
      refine ⟨_, pss_cons (ps_set (i := 2) scKept.nd rfl (Or.inl rfl) (pe_meth (E := E) (pv 0) T.cl T.mv FV hr bV .nil (passes_call (takes_of rfl rfl rfl rfl) fun _ _ _ _ h => h) (pa_cons (pe_ix ix_tup (pv 1) pe_int (fun _ _ => rfl)) pa_nil)))
        (pss_cons (ps_if (pt_not (pt_val (pe_call GH (hr.mono (by decide)) rfl gH FH.kp bH .nil pass0 (pa_cons (pe_ix ix_tup (pv 1) pe_int (fun _ _ => rfl)) (pa_cons (pv 2) pa_nil)))))
          (pss_one (ps_expr (pe_meth0 (E := E) (pv 0) T.cl T.mr FR (hr.mono (by decide)) bR .nil (passes_call (takes_of rfl rfl rfl rfl) fun _ _ _ _ h => h)))) pss_nil)
        (pss_one (ps_ret (pv 2)))), ?_⟩
      have np : ∀ {a : Addr} {xs : List V}, H a = some (.tup xs) → a ≠ p := fun e => ne_of e hp (by intro z; cases z)
      refine ⟨_, rfl, p, dx, _, rfl, hp, dfl_no _ _ (by decide +kernel) (by decide +kernel), _, rfl, _, _, _, _, rfl, rfl, SqT.of h1, at_1, ?_⟩
      have vi : ∀ c v, (⟨g.lo, g.hi, none⟩ : Gn).val c = some v → 0 ≤ c ∧ c ≤ g.hi - g.lo ∧ v = g.lo + c := fun c v e => by
        unfold Gn.val Gn.keeps at e
        by_cases q : 0 ≤ c ∧ c ≤ g.hi - g.lo
        · rw [if_pos q] at e
          have e2 := Option.some.inj (show some (g.lo + c) = some v from e)
          exact ⟨q.1, q.2, e2.symm⟩
        · rw [if_neg q] at e; cases e
      refine ⟨p, dx, r, row, u, ug, ⟨g.lo, g.hi, none⟩, rfl, hp, hrow, hz, h2, ⟨hw.le, hw.few, hw.sm, fun c z => by cases z⟩, rfl, fun c v hcr hv => ?_, fun hn => ?_⟩
      · obtain ⟨a, b, rfl⟩ := vi c v hv
        have hp1 : (upd H p (.ins C dx (dfl r ((u : Int) + 1)))) p = some (.ins C dx (dfl r ((u : Int) + 1))) := upd_same
        have h1' : (upd H p (.ins C dx (dfl r ((u : Int) + 1)))) ga = some (.tup [.str "kept", ug, wc]) := by rw [upd_ne (np h1)]; exact h1
        have h3' : CdAt (upd H p (.ins C dx (dfl r ((u : Int) + 1)))) wc cd := by
          have gen : ∀ {c : Cd} {v : V}, CdAt H v c → CdAt (upd H p (.ins C dx (dfl r ((u : Int) + 1)))) v c := by
            intro c
            induction c with
            | atm n => intro v ⟨a, e1, e2⟩; exact ⟨a, e1, by rw [upd_ne (np e2)]; exact e2⟩
            | dv n => intro v ⟨a, e1, e2⟩; exact ⟨a, e1, by rw [upd_ne (np e2)]; exact e2⟩
            | nt c ih => intro v ⟨a, x, e1, e2, e3⟩; exact ⟨a, x, e1, by rw [upd_ne (np e2)]; exact e2, ih e3⟩
            | orr c d ih1 ih2 => intro v ⟨a, x, y, e1, e2, e3, e4⟩; exact ⟨a, x, y, e1, by rw [upd_ne (np e2)]; exact e2, ih1 e3, ih2 e4⟩
          exact gen h3
        refine ⟨_, rfl, _, _, _, _, rfl, rfl, SqT.of h1', at_2, _, rfl, wc, cd, g.lo + c, rfl, h3', hw.cd cd hc, _, rfl, ?_⟩
        cases ek : cd.ok (g.lo + c) with
        | true =>
          refine iteF ⟨_, rfl, k1 c _ hcr ?_⟩
          unfold Gn.val Gn.keeps
          rw [if_pos ⟨a, b⟩, hc]
          show (if cd.ok (g.lo + c) = true then _ else _) = _
          rw [if_pos ek]
        | false =>
          refine iteT ⟨_, rfl, p, dx, _, rfl, hp1, dfl_no _ _ (by decide +kernel) (by decide +kernel), ?_⟩
          refine ⟨p, dx, r, u + 1, rfl, hp1, Outs.more (k2 fun ⟨c', v', hc', hv'⟩ => ?_)⟩
          rw [hcr] at hc'
          cases hc'
          unfold Gn.val Gn.keeps at hv'
          rw [if_pos ⟨a, b⟩, hc] at hv'
          have hv2 : (if cd.ok (g.lo + c) = true then some (g.lo + c) else none) = some v' := hv'
          rw [if_neg (by rw [ek]; exact Bool.false_ne_true)] at hv2
          cases hv2
      · refine k2 fun ⟨c, v, hcr, hv⟩ => hn ⟨c, g.lo + c, hcr, ?_⟩
        unfold Gn.val at hv ⊢
        by_cases q : 0 ≤ c ∧ c ≤ g.hi - g.lo
        · rw [if_pos q]
          rfl
        · rw [if_neg q] at hv; cases hv
/-! ### value of a kept drawer, of any -/
theorem ok_valueK {f fdk : _} {fd : FuncData} (F : FnP K "value" "Draw.value" sDValue f fd) (T : DrawTxt K mg C fc fr fk fv) (FK : FnOk P w K mg base (L2.CX P w) 5 fk fdk ["self", "generator"] (spKept CS C)) (bK : Binds K fdk ["self", "generator"] []) :
    FnOk P w K mg base (L2.CX P w) 6 f fd ["self", "generator"] (spValue CS C fun g => g.kc ≠ none) := by
  refine F.ok scValue (fun vs H Q E h => ?_) (fun cdv A outer s H vs Q E hr h => ?_)
  · obtain ⟨p, dx, r, row, u, gv, g, rfl, _⟩ := h
    rfl
  · obtain ⟨p, dx, r, row, u, gv, g, rfl, hp, hrow, hz, hg, hw, hk, k1, k2⟩ := h
    have hg0 := hg
    unfold GnAt at hg
    cases hc : g.kc with
    | none => exact absurd hc hk
    | some cd =>
      rw [hc] at hg
      obtain ⟨ga, ug, wc, rfl, h1, h2, h3⟩ := hg
      refine ⟨_, pss_cons (ps_set (i := 2) scValue.nd rfl (Or.inl rfl) (pe_ix ix_tup (pv 1) pe_int (fun _ _ => rfl)))
        (pss_cons (ps_if (pt_cmpR op_eq (pv 2) pe_str (nomark _)) pss_never pss_nil)
        (pss_cons (ps_if (pt_cmpR op_eq (pv 2) pe_str (nomark _)) pss_never pss_nil)
        (pss_cons (ps_if (pt_cmpR op_eq (pv 2) pe_str (nomark _)) pss_never pss_nil)
        (pss_cons (ps_if (pt_cmpR op_eq (pv 2) pe_str (nomark _)) pss_never pss_nil)
        (pss_cons (ps_if (pt_cmpR op_eq (pv 2) pe_str (nomark _)) pss_never pss_nil)
        (pss_cons (ps_if (pt_cmpR op_eq (pv 2) pe_str (nomark _))
          (pss_one (ps_ret (pe_meth (E := E) (pv 0) T.cl T.mkp FK hr bK .nil (passes_call (takes_of rfl rfl rfl rfl) fun _ _ _ _ h => h) (pa_cons (pv 1) pa_nil)))) pss_nil)
        pss_never)))))), ?_⟩
      refine ⟨_, rfl, _, _, _, _, rfl, rfl, SqT.of h1, at_0, ?_⟩
      refine ⟨_, rfl, rfl, _, rfl, ite_f (by decide +kernel) ?_⟩
      refine ⟨_, rfl, rfl, _, rfl, ite_f (by decide +kernel) ?_⟩
      refine ⟨_, rfl, rfl, _, rfl, ite_f (by decide +kernel) ?_⟩
      refine ⟨_, rfl, rfl, _, rfl, ite_f (by decide +kernel) ?_⟩
      refine ⟨_, rfl, rfl, _, rfl, ite_f (by decide +kernel) ?_⟩
      refine ⟨_, rfl, rfl, _, rfl, ite_t (by decide +kernel) ?_⟩
      exact ⟨_, rfl, p, dx, _, rfl, hp, dfl_no _ _ (by decide +kernel) (by decide +kernel), _, rfl, p, dx, r, row, u, _, g, rfl, hp, hrow, hz, hg0, hw, hk, k1, k2⟩
theorem ok_value {f : Addr} {fd : FuncData} (FI : FnOk P w K mg base (L2.CX P w) 4 f fd ["self", "generator"] (spValue CS C fun g => g.kc = none)) (FK : FnOk P w K mg base (L2.CX P w) 6 f fd ["self", "generator"] (spValue CS C fun g => g.kc ≠ none)) :
    FnOk P w K mg base (L2.CX P w) 6 f fd ["self", "generator"] (spValue CS C fun _ => True) := by
  refine ⟨fun vs H Q E h => ?_, fun A outer s H args us vs Q E hr he hb hv hs => ?_⟩
  · obtain ⟨p, dx, r, row, u, gv, g, rfl, _⟩ := h
    rfl
  · obtain ⟨p, dx, r, row, u, gv, g, e, hp, hrow, hz, hg, hw, _, k1, k2⟩ := hs
    by_cases hk : g.kc = none
    · exact (FI.mono (by decide)).run A outer s H args us vs Q E hr he hb hv ⟨p, dx, r, row, u, gv, g, e, hp, hrow, hz, hg, hw, hk, k1, k2⟩
    · exact FK.run A outer s H args us vs Q E hr he hb hv ⟨p, dx, r, row, u, gv, g, e, hp, hrow, hz, hg, hw, hk, k1, k2⟩
end
end Cr
set_option Elab.async false
set_option linter.all false
set_option maxRecDepth 100000
set_option maxHeartbeats 4000000
/-! Choicerows: draw, argument_at. -/
namespace Cr
open PySem PySem.Spec PyProof.Rows L2 CRM
variable [Tb]
section
variable {P : Program} {w : World} {K : PySem.W.Frag} {mg : Str → Option Value} {base : Heap} {CS fS C fc fr fk fv : Addr}
/-- ('value', v, 1), or a pair that is no value -/
def spDraw : Sp := fun vs H Q _ => ∃ (gv : V) (g : Gn) (r : Addr) (row : List Int), vs = [gv, .ref r] ∧ GnAt H gv g ∧ Gn.wf g ∧ RowAt H r row ∧ row.length ≤ 1000 ∧
  (∀ c v, row[0]? = some c → g.val c = some v → ∀ p H', Ext H H' → H' p = some (.tup [.str "value", .int v, .int 1]) → Q (.ref p) H') ∧
  ((¬ ∃ c v, row[0]? = some c ∧ g.val c = some v) → ∀ p H' (z : Str) (n : Int), Ext H H' → H' p = some (.tup [.str z, .int n]) → ¬ z = "value" → Q (.ref p) H')
theorem scDraw : FnScope ["generator", "row", "some", "found", "stop"] ["generator", "row"] (defScope sDrawF) := ⟨rfl, rfl, rfl, by decide +kernel, rfl, by decide +kernel, by decide +kernel⟩
def tsStop (CS : Addr) : Addr → Value → Option Addr → TS := fun a cls d => tRet (tXf a cls d CS "outcome" (tVar 4))
theorem ok_draw {f fI : Addr} {fdI fdv fd : FuncData} (F : FnP K "draw" "draw" sDrawF f fd) (T : DrawTxt K mg C fc fr fk fv) (TS : StopTxt P K mg CS fS)
    (M : Mk K C fI) (FI : FnOk P w K mg base CX0 1 fI fdI ["self", "row"] (spDInit C)) (bI : Binds K fdI ["self", "row"] [])
    (FV : FnOk P w K mg base (L2.CX P w) 6 fv fdv ["self", "generator"] (spValue CS C fun _ => True)) (bV : Binds K fdv ["self", "generator"] []) :
    FnOk P w K mg base CX0 8 f fd ["generator", "row"] spDraw := by
  refine F.ok scDraw (fun vs H Q E h => ?_) (fun cdv A outer s H vs Q E hr h => ?_)
  · obtain ⟨gv, g, r, row, rfl, _⟩ := h
    rfl
  · obtain ⟨gv, g, r, row, rfl, hg, hw, hrow, hz, k1, k2⟩ := h
    refine ⟨_, pss_cons (ps_set (i := 2) scDraw.nd rfl (Or.inl rfl) (pe_make M FI (hr.mono (by decide)) rfl T.gC bI .nil pass0 (pa_cons (pv 1) pa_nil)))
      (pss_cons (ps_try_as (i := 4) (tb := fun W => tAsg (tMeth C "value" (spValue CS C fun _ => True) [] (fun cls d H' => ∀ σ : L2.St, σ.length = 5 → W cls d σ H') (tVar 2) (tCons (tVar 0) tNil)) (gName 3)) (ts := tsStop CS) (Wout := fun _ _ _ _ => False)
          rfl rfl scDraw.nd rfl rfl ⟨rfl, by decide +kernel, Or.inl TS.gC⟩ takes0
          (fun W pn xe tk _ => pss_one (ps_set (i := 3) scDraw.nd rfl (Or.inl rfl) (by exact (pe_meth (pv 2) T.cl T.mv FV (hr.mono (by decide)) bV .nil (fun pins σ H s e s' I c => tk e s' (XE.of_call I (fun cls d H' h => h σ I.len) c)) (pa_cons (pv 0) pa_nil)))))
          (fun a oe cls d pn hz hf => pss_one (ps_ret (by exact (pe_xf TS.xf TS.noO hz hf (pv 4))))))
      (pss_one (ps_ret (pe_tup (pa_cons pe_str (pa_cons (pv 3) (pa_cons (pe_fld (pv 2) rfl) pa_nil))))))), ?_⟩
    -- some = Draw(row)
    refine ⟨_, rfl, fun x dx nx ndx nex => ?_⟩
    refine ⟨x, dx, r, rfl, upd_same, rfl, ?_⟩
    rw [upd_upd]
    have e0 : Ext H (upd H dx (.own x)) := Ext.of_new ndx
    have nx1 : (upd H dx (.own x)) x = none := by rw [upd_ne (Ne.symm nex)]; exact nx
    have e1 : Ext H (upd (upd H dx (.own x)) x (.ins C dx (dfl r 0))) := e0.new nx1
    -- found = some.value(generator)
    refine ⟨_, rfl, x, dx, _, rfl, upd_same, dfl_no _ _ (by decide +kernel) (by decide +kernel), _, rfl, ?_⟩
    refine ⟨x, dx, r, row, 0, gv, g, rfl, upd_same, e1.tup hrow, hz, e1.gn hg, hw, trivial, fun c v hc hv => ?_, fun hn u' t d z n H' hz' e ht hd => ?_⟩
    · rw [upd_upd]
      refine ⟨_, rfl, _, rfl, x, C, dx, _, _, rfl, upd_same, T.cl, T.nU, dfl_used _ _, (by show 3 ≤ sizeLine; decide), fun p np => ?_⟩
      have e2 : Ext H (upd (upd H dx (.own x)) x (.ins C dx (dfl r (((0 : Nat) : Int) + 1)))) := e0.new nx1
      exact k1 c v hc hv p _ (e2.new np) upd_same
    · intro σ hσ
      refine ⟨true, TS.te, fun _ a ha => ?_, fun q => Bool.noConfusion q⟩
      refine ⟨_, List.getElem?_set_self (by rw [hσ]; decide), rfl, rfl, d, [(("outcome" : Str), .ref t)], .ref t, rfl, hd, by simp [List.lookup], ?_⟩
      rw [upd_upd] at e
      exact k2 hn t H' z n ((e0.new nx1).trans e) ht hz'
/-! ### argument_at -/
def spArgAt : Sp := fun vs H Q _ => ∃ (cv : V) (c : Cm) (r : Addr) (row : List Int) (place : Nat), vs = [cv, .ref r, .int (place : Int)] ∧ CmAt H cv c ∧ Cm.wf c ∧ RowAt H r row ∧ row.length ≤ 1000 ∧ place ≤ 1000 ∧
  (∀ d v, row[place]? = some d → c.gn.val d = some v → ∀ p H', Ext H H' → H' p = some (.tup [.str "value", .int v, .int 1]) → Q (.ref p) H') ∧
  ((¬ ∃ d v, row[place]? = some d ∧ c.gn.val d = some v) → ∀ p H' (z : Str) (n : Int), Ext H H' → H' p = some (.tup [.str z, .int n]) → ¬ z = "value" → Q (.ref p) H')
theorem scArgAt : FnScope ["command", "row", "place", "outcome"] ["command", "row", "place"] (defScope sArgAt) := ⟨rfl, rfl, rfl, by decide +kernel, rfl, by decide +kernel, by decide +kernel⟩
theorem cut_from (row : List Int) (place : Nat) : cutV (row.map V.int) (some (place : Int)) none = (row.drop place).map V.int := by
  unfold cutV
  rw [HT.sIx_none, HT.sIx_nat, List.length_map]
  have e : (row.map V.int).drop (min place row.length) = (row.drop place).map V.int := by
    rw [← List.map_drop]
    congr 1
    by_cases c : place ≤ row.length
    · rw [Nat.min_eq_left c]
    · rw [Nat.min_eq_right (by omega), List.drop_length, List.drop_eq_nil_of_le (by omega)]
  rw [e, List.take_of_length_le]
  rw [List.length_map, List.length_drop]
  omega
theorem ok_arg_at {f fD : Addr} {fdD fd : FuncData} (F : FnP K "argument_at" "argument_at" sArgAt f fd) (FD : FnOk P w K mg base CX0 8 fD fdD ["generator", "row"] spDraw) (gD : mg "draw" = some (.ref fD)) (kD : PySem.W.keepIn K (.ref fD) = true) (bD : Binds K fdD ["generator", "row"] []) :
    FnOk P w K mg base CX0 9 f fd ["command", "row", "place"] spArgAt := by
  refine F.ok scArgAt (fun vs H Q E h => ?_) (fun cdv A outer s H vs Q E hr h => ?_)
  · obtain ⟨cv, c, r, row, place, rfl, _⟩ := h
    rfl
  · obtain ⟨cv, c, r, row, place, rfl, hc, hw, hrow, hz, hpl, k1, k2⟩ := h
    obtain ⟨ca, gu, ge, rfl, h1, h2, h3⟩ := hc
    refine ⟨_, PSs.nox (pss_cons (ps_set (i := 3) scArgAt.nd rfl (Or.inl rfl) (pe_call FD hr rfl gD kD bD .nil pass0 (pa_cons (pe_ix ix_tup (pv 0) pe_int (fun _ _ => rfl)) (pa_cons (pe_slice sl_tupA (pv 1) (po_some (pv 2)) po_none) pa_nil))))
      (pss_cons (ps_if (pt_cmpR op_eq (pe_ix ix_tup (pv 3) pe_int (fun _ _ => rfl)) pe_str (nomark _)) (pss_one (ps_ret (pv 3))) pss_nil)
      (pss_one (ps_ret (pe_tup (pa_cons (pe_ix ix_tup (pv 3) pe_int (fun _ _ => rfl)) (pa_cons (pe_op op_add (pe_ix ix_tup (pv 3) pe_int (fun _ _ => rfl)) (pv 2)) pa_nil))))))), ?_⟩
    refine ⟨_, rfl, _, _, _, _, rfl, rfl, SqT.of h1, at_2, _, rfl, _, rfl, _, rfl, r, _, rfl, SqT.of hrow, ?_⟩
    have fin : ∀ (q : Addr) (H1 : Hp), Ext H H1 → RowAt H1 q (row.drop place) → spDraw [ge, .ref q] H1 (fun v H' => tSeq (tIfS (tTest (tOp rEq (tOp (rIxT K) (tVar 3) (tC (.int 0))) (tC (.str "value")))) (tRet (tVar 3)) tNext)
        (tRet (tTup (tCons (tOp (rIxT K) (tVar 3) (tC (.int 0))) (tCons (tOp (rI0 fun i j => .int (i + j)) (tOp (rIxT K) (tVar 3) (tC (.int 1))) (tVar 2)) tNil)))) { nx := fun _ H' => Q .non H', rt := Q } ([some (.ref ca), some (.ref r), some (.int (place : Int)), some v]) H') (fun _ _ _ => False) := by
      intro q H1 e hq
      have e0 : (row.drop place)[0]? = row[place]? := by rw [List.getElem?_drop]; simp
      refine ⟨ge, c.gn, q, row.drop place, rfl, e.gn h3, hw.gn, hq, (by rw [List.length_drop]; omega), fun d v hd hv p H' e' hp => ?_, fun hn p H' z n e' hp hz' => ?_⟩
      · refine ⟨_, rfl, _, _, _, _, rfl, rfl, SqT.of hp, at_0, rfl, _, rfl, ite_t (by decide +kernel) ⟨_, rfl, ?_⟩⟩
        exact k1 d v (by rw [← e0]; exact hd) hv p H' (e.trans e') hp
      · refine ⟨_, rfl, _, _, _, _, rfl, rfl, SqT.of hp, at_0, rfl, _, rfl, ite_f (fun z' => hz' (by injection z')) ?_⟩
        refine ⟨_, rfl, _, _, _, _, rfl, rfl, SqT.of hp, at_0, _, rfl, _, _, _, _, rfl, rfl, SqT.of hp, at_1, _, rfl, _, _, rfl, rfl, (by show 2 ≤ sizeLine; decide), fun t nt => ?_⟩
        exact k2 (fun ⟨d, v, a, b⟩ => hn ⟨d, v, by rw [e0]; exact a, b⟩) t _ z _ ((e.trans e').new nt) upd_same hz'
    refine ⟨fun hh => ?_, fun hh p np => ?_⟩
    · refine fin r H (Ext.refl H) ?_
      have : row.drop place = row := by
        rw [HT.sIx_none, HT.sIx_nat, List.length_map] at hh
        have h0 := hh.1
        by_cases c0 : place = 0
        · rw [c0]; rfl
        · have : row.length = 0 := by omega
          rw [List.length_eq_zero_iff.mp this]
          simp
      rw [this]
      exact hrow
    · refine fin p _ (Ext.of_new np) ?_
      show upd H p _ p = _
      rw [upd_same, cut_from]
end
end Cr
set_option Elab.async false
set_option linter.all false
set_option maxRecDepth 100000
set_option maxHeartbeats 4000000
/-! Choicerows: one_step, run_machine. -/
namespace Cr
open PySem PySem.Spec PyProof.Rows L2 CRM
variable [Tb]
section
variable {P : Program} {w : World} {K : PySem.W.Frag} {mg : Str → Option Value} {base : Heap}
/-- an outcome that is no value -/
def NoVal (H : Hp) (o : Addr) : Prop := ∃ (z : Str) (n : Int), H o = some (.tup [.str z, .int n]) ∧ ¬ z = "value"
def spOneStep : Sp := fun vs H Q _ => ∃ (mv : V) (m : Mc) (r : Addr) (row : List Int) (place : Nat) (s : Int), vs = [mv, .ref r, .int (place : Int), .int s] ∧ McAt H mv m ∧ Mc.wf m ∧ RowAt H r row ∧ row.length ≤ 1000 ∧ place ≤ 900 ∧
  (step m.cs row place s = .bad → ∀ p o H', Ext H H' → H' p = some (.tup [.ref o, .non, .non]) → NoVal H' o → Q (.ref p) H') ∧
  (∀ pl, step m.cs row place s = .fin pl → ∀ p H', Ext H H' → H' p = some (.tup [.non, .non, .int (pl : Int)]) → Q (.ref p) H') ∧
  (∀ a s' nm pl, step m.cs row place s = .go a s' nm pl → ∀ p q H', Ext H H' → H' p = some (.tup [.non, .ref q, .int (pl : Int)]) → H' q = some (.tup [.str (nmS nm), .int a, .int s']) → Q (.ref p) H')
theorem scOneStep : FnScope ["some_machine", "row", "place", "state", "wrong", "commands", "command", "outcome"] ["some_machine", "row", "place", "state"] (defScope sOneStep) := ⟨rfl, rfl, rfl, by decide +kernel, rfl, by decide +kernel, by decide +kernel⟩
theorem ok_one_step {f fC fA fG fB : Addr} {fd fdC fdA fdG fdB : FuncData} (F : FnP K "one_step" "one_step" sOneStep f fd) (hlen : mg "len" = none)
    (FC : FnOk P w K mg base CX0 1 fC fdC ["row", "place", "bound"] spChoiceAt) (gC : mg "choice_at" = some (.ref fC)) (kC : PySem.W.keepIn K (.ref fC) = true) (bC : Binds K fdC ["row", "place", "bound"] [])
    (FA : FnOk P w K mg base CX0 2 fA fdA ["some_machine", "state"] spAllowed) (gA : mg "allowed" = some (.ref fA)) (kA : PySem.W.keepIn K (.ref fA) = true) (bA : Binds K fdA ["some_machine", "state"] [])
    (FG : FnOk P w K mg base CX0 9 fG fdG ["command", "row", "place"] spArgAt) (gG : mg "argument_at" = some (.ref fG)) (kG : PySem.W.keepIn K (.ref fG) = true) (bG : Binds K fdG ["command", "row", "place"] [])
    (FB : FnOk P w K mg base CX0 1 fB fdB ["command", "state", "argument"] spBehind) (gB : mg "behind_machines" = some (.ref fB)) (kB : PySem.W.keepIn K (.ref fB) = true) (bB : Binds K fdB ["command", "state", "argument"] []) :
    FnOk P w K mg base CX0 10 f fd ["some_machine", "row", "place", "state"] spOneStep := by
  refine F.ok scOneStep (fun vs H Q E h => ?_) (fun cdv A outer s0 H vs Q E hr h => ?_)
  · obtain ⟨mv, m, r, row, place, s, rfl, _⟩ := h
    rfl
  · obtain ⟨mv, m, r, row, place, s, rfl, hm, hw, hrow, hz, hpl, k1, k2, k3⟩ := h
    have three : 3 ≤ sizeLine := by decide
    have two : 2 ≤ sizeLine := by decide
    have ix : ∀ {i : Nat} {b : Int}, row[i]? = some b → (row.map V.int)[i]? = some (.int b) := fun e => by rw [List.getElem?_map, e]; rfl
    refine ⟨_, PSs.nox (pss_cons (ps_set (i := 4) scOneStep.nd rfl (Or.inl rfl) (pe_call FC (hr.mono (by decide)) rfl gC kC bC .nil pass0 (pa_cons (pv 1) (pa_cons (pv 2) (pa_cons (pe_int) pa_nil)))))
        (pss_cons (ps_if (pt_cmpR op_notN (pv 4) pe_non (nomark _)) (pss_one (ps_ret (pe_tup (pa_cons (pv 4) (pa_cons (pe_non) (pa_cons (pe_non) pa_nil)))))) pss_nil)
        (pss_cons (ps_if (pt_cmpR op_eq (pe_ix ix_tup (pv 1) (pv 2) (fun _ _ => rfl)) pe_int (nomark _)) (pss_one (ps_ret (pe_tup (pa_cons (pe_non) (pa_cons (pe_non) (pa_cons (pe_op op_add (pv 2) pe_int) pa_nil)))))) pss_nil)
        (pss_cons (ps_set (i := 5) scOneStep.nd rfl (Or.inl rfl) (pe_call FA (hr.mono (by decide)) rfl gA kA bA .nil pass0 (pa_cons (pv 0) (pa_cons (pv 3) pa_nil))))
        (pss_cons (ps_if (pt_cmpR op_eq (pe_callB call_len_seq (by rfl) hlen PySem.boot_len (pa_cons (pv 5) pa_nil)) pe_int (nomark _)) (pss_one (ps_ret (pe_tup (pa_cons (pe_tup (pa_cons (pe_str) (pa_cons (pe_op op_add (pv 2) pe_int) pa_nil))) (pa_cons (pe_non) (pa_cons (pe_non) pa_nil)))))) pss_nil)
        (pss_cons (ps_set (i := 4) scOneStep.nd rfl (Or.inl rfl) (pe_call FC (hr.mono (by decide)) rfl gC kC bC .nil pass0 (pa_cons (pv 1) (pa_cons (pe_op op_add (pv 2) pe_int) (pa_cons (pe_op op_sub (pe_callB call_len_seq (by rfl) hlen PySem.boot_len (pa_cons (pv 5) pa_nil)) pe_int) pa_nil)))))
        (pss_cons (ps_if (pt_cmpR op_notN (pv 4) pe_non (nomark _)) (pss_one (ps_ret (pe_tup (pa_cons (pv 4) (pa_cons (pe_non) (pa_cons (pe_non) pa_nil)))))) pss_nil)
        (pss_cons (ps_set (i := 6) scOneStep.nd rfl (Or.inl rfl) (pe_ix ix_list (pv 5) (pe_ix ix_tup (pv 1) (pe_op op_add (pv 2) pe_int) (fun _ _ => rfl)) (fun _ _ => rfl)))
        (pss_cons (ps_set (i := 7) scOneStep.nd rfl (Or.inl rfl) (pe_call FG hr rfl gG kG bG .nil pass0 (pa_cons (pv 6) (pa_cons (pv 1) (pa_cons (pe_op op_add (pv 2) pe_int) pa_nil)))))
        (pss_cons (ps_if (pt_cmpR op_ne (pe_ix ix_tup (pv 7) pe_int (fun _ _ => rfl)) pe_str (nomark _)) (pss_one (ps_ret (pe_tup (pa_cons (pv 7) (pa_cons (pe_non) (pa_cons (pe_non) pa_nil)))))) pss_nil)
        (pss_one (ps_ret (pe_tup (pa_cons (pe_non) (pa_cons (pe_tup (pa_cons (pe_ix ix_tup (pv 6) pe_int (fun _ _ => rfl)) (pa_cons (pe_ix ix_tup (pv 7) pe_int (fun _ _ => rfl)) (pa_cons (pe_call FB (hr.mono (by decide)) rfl gB kB bB .nil pass0 (pa_cons (pv 6) (pa_cons (pv 3) (pa_cons (pe_ix ix_tup (pv 7) pe_int (fun _ _ => rfl)) pa_nil)))) pa_nil)))) (pa_cons (pe_op op_add (pe_op op_add (pv 2) pe_int) (pe_ix ix_tup (pv 7) pe_int (fun _ _ => rfl))) pa_nil)))))))))))))))), ?_⟩
    have en : ((place : Int)).toNat = place := rfl
    have bad : ∀ (o : Addr) (z : Str) (n : Int) (H1 : Hp), Ext H H1 → H1 o = some (.tup [.str z, .int n]) → ¬ z = "value" → step m.cs row place s = .bad → 3 ≤ sizeLine ∧ ∀ p, H1 p = none → Q (.ref p) (upd H1 p (.tup [.ref o, .non, .non])) := fun o z n H1 e ho hz hb =>
      ⟨three, fun p np => k1 hb p o _ (e.new np) upd_same ⟨z, n, by rw [upd_ne (ne_of_none ho np)]; exact ho, hz⟩⟩
    -- the first choice
    refine ⟨_, rfl, _, rfl, r, row, (place : Int), 1, rfl, hrow, hz, by omega, fun ⟨b, hb, b0, b1⟩ => ?_, fun hn p H1 z n e hp hz => ?_⟩
    case refine_2 =>
      refine ⟨_, rfl, rfl, _, rfl, ?_⟩
      refine iteT ⟨_, rfl, bad p z n H1 e hp hz ?_⟩
      unfold CRM.step
      cases q : row[place]? with
      | none => rfl
      | some b => exact if_neg fun g => hn ⟨b, q, g.1, g.2⟩
    refine ⟨_, rfl, rfl, _, rfl, iteF ?_⟩
    rw [en] at hb
    have st0 : step m.cs row place s = if b = 0 then .fin (place + 1) else match (allowed m.cs s) with
        | [] => .bad
        | _ :: _ => match row[place + 1]? with
          | none => .bad
          | some k => if 0 ≤ k ∧ k ≤ ((allowed m.cs s).length : Int) - 1 then
              match (allowed m.cs s)[k.toNat]? with
              | none => .bad
              | some c => match row[place + 2]? with
                | none => .bad
                | some d => match c.gn.val d with
                  | none => .bad
                  | some a => .go a (c.ef.app s a) c.nm (place + 3)
            else .bad := by
      unfold CRM.step
      rw [hb]
      exact if_pos ⟨b0, b1⟩
    refine ⟨_, rfl, _, rfl, _, _, _, _, rfl, rfl, SqT.of hrow, at_int (by omega) (ix (by rw [en]; exact hb)), rfl, _, rfl, ?_⟩
    by_cases c0 : b = 0
    · subst c0
      rw [if_pos rfl] at st0
      refine ite_t rfl ⟨_, rfl, _, _, rfl, rfl, three, fun p np => ?_⟩
      exact k2 _ st0 p _ (Ext.of_new np) upd_same
    rw [if_neg c0] at st0
    refine ite_f (fun z => c0 (by injection z)) ?_
    -- the commands
    refine ⟨_, rfl, _, rfl, mv, m, s, rfl, hm, hw, fun cp us H1 e1 hcp hus => ?_⟩
    refine ⟨_, rfl, cp, us, rfl, .inl (SqL.of hcp), rfl, _, rfl, ?_⟩
    have hl := paired_len hus
    by_cases c1 : us.length = 0
    · rw [List.length_eq_zero_iff.mp c1] at hl
      have e0 : allowed m.cs s = [] := List.length_eq_zero_iff.mp hl.symm
      rw [e0] at st0
      refine ite_t (by rw [c1]; rfl) ⟨_, rfl, _, _, rfl, rfl, two, fun o no => ?_⟩
      exact bad o _ _ _ (e1.new no) upd_same (by decide +kernel) st0
    refine ite_f (fun z => c1 (by injection z with z; exact Int.ofNat.inj z)) ?_
    have st1 : step m.cs row place s = match row[place + 1]? with
          | none => .bad
          | some k => if 0 ≤ k ∧ k ≤ ((allowed m.cs s).length : Int) - 1 then
              match (allowed m.cs s)[k.toNat]? with
              | none => .bad
              | some c => match row[place + 2]? with
                | none => .bad
                | some d => match c.gn.val d with
                  | none => .bad
                  | some a => .go a (c.ef.app s a) c.nm (place + 3)
            else .bad := by
      rw [st0]
      cases q : allowed m.cs s with
      | nil => rw [q] at hl; exact absurd hl c1
      | cons x xs => rfl
    have ep : ((place : Int) + 1).toNat = place + 1 := by omega
    have ep2 : ((place : Int) + 2) = ((place + 2 : Nat) : Int) := by omega
    refine ⟨_, rfl, _, rfl, _, _, rfl, rfl, _, rfl, cp, us, rfl, .inl (SqL.of hcp), _, _, rfl, rfl, ?_⟩
    refine ⟨r, row, (place : Int) + 1, (us.length : Int) - 1, rfl, e1.tup hrow, hz, by omega, fun ⟨k, hk, q0, q1⟩ => ?_, fun hn p H2 z n e hp hz => ?_⟩
    case refine_2 =>
      refine ⟨_, rfl, rfl, _, rfl, iteT ⟨_, rfl, bad p z n H2 (e1.trans e) hp hz ?_⟩⟩
      rw [st1]
      rw [ep] at hn
      cases q : row[place + 1]? with
      | none => rfl
      | some k => exact if_neg fun g => hn ⟨k, q, g.1, by rw [hl]; exact g.2⟩
    rw [ep] at hk
    refine ⟨_, rfl, rfl, _, rfl, iteF ?_⟩
    obtain ⟨cv, hcv⟩ : ∃ cv, us[k.toNat]? = some cv := ⟨_, List.getElem?_eq_getElem (by omega)⟩
    obtain ⟨c, hc, hcm⟩ := paired_get hus hcv
    have hcw : Cm.wf c := hw.cs c ((List.mem_filter.mp (List.mem_of_getElem? hc)).1)
    have st2 : step m.cs row place s = match row[place + 2]? with
                | none => .bad
                | some d => match c.gn.val d with
                  | none => .bad
                  | some a => .go a (c.ef.app s a) c.nm (place + 3) := by
      rw [st1, hk]
      refine (if_pos ⟨q0, by rw [← hl]; exact q1⟩).trans ?_
      rw [hc]
    refine ⟨_, rfl, _, rfl, _, rfl, _, _, rfl, rfl, _, _, _, _, rfl, rfl, SqT.of (e1.tup hrow), at_int (by omega) (ix (by rw [ep]; exact hk)), _, _, _, _, rfl, rfl, SqL.of hcp, at_int q0 hcv, ?_⟩
    refine ⟨_, rfl, _, rfl, _, rfl, _, _, rfl, rfl, cv, c, r, row, place + 2, by rw [← ep2]; rfl, hcm, hcw, e1.tup hrow, hz, by omega, fun d v hd hv op H2 e2 hop => ?_, fun hn op H2 z n e2 hop hz => ?_⟩
    · rw [hd] at st2
      have st3 : step m.cs row place s = .go v (c.ef.app s v) c.nm (place + 3) := by
        rw [st2]
        show (match c.gn.val d with
          | none => Stp.bad
          | some a => .go a (c.ef.app s a) c.nm (place + 3)) = _
        rw [hv]
      refine ⟨_, rfl, _, _, _, _, rfl, rfl, SqT.of hop, at_0, rfl, _, rfl, iteF ?_⟩
      obtain ⟨ca, gu, ge, rfl, h1, _, _⟩ := id (e2.cm hcm)
      refine ⟨_, rfl, _, _, _, _, rfl, rfl, SqT.of h1, at_0, _, rfl, _, _, _, _, rfl, rfl, SqT.of hop, at_1, ?_⟩
      refine ⟨_, rfl, _, rfl, _, rfl, _, _, _, _, rfl, rfl, SqT.of hop, at_1, .ref ca, c, s, v, rfl, e2.cm hcm, three, fun q nq => ?_⟩
      have hop' : upd H2 q (.tup [.str (nmS c.nm), .int v, .int (c.ef.app s v)]) op = some (.tup [.str "value", .int v, .int 1]) := by rw [upd_ne (ne_of_none hop nq)]; exact hop
      refine ⟨_, rfl, _, _, rfl, rfl, _, rfl, _, _, _, _, rfl, rfl, SqT.of hop', at_2, _, _, rfl, rfl, three, fun p np => ?_⟩
      refine k3 _ _ _ _ st3 p q _ (((e1.trans e2).new nq).new np) (by rw [upd_same]; rfl) (by rw [upd_ne (ne_of_none upd_same np), upd_same])
    · refine ⟨_, rfl, _, _, _, _, rfl, rfl, SqT.of hop, at_0, rfl, _, rfl, ?_⟩
      have hb : step m.cs row place s = .bad := by
        rw [st2]
        cases q : row[place + 2]? with
        | none => rfl
        | some d =>
          show (match c.gn.val d with
            | none => Stp.bad
            | some a => .go a (c.ef.app s a) c.nm (place + 3)) = _
          cases q2 : c.gn.val d with
          | none => rfl
          | some a => exact absurd ⟨d, a, q, q2⟩ hn
      have hne : (!decide (V.str z = V.str "value")) = true := by
        rw [decide_eq_false (fun z' => hz (by injection z'))]; rfl
      exact ite_bt hne ⟨_, rfl, bad op z n H2 (e1.trans e2) hop hz hb⟩
/-! ### run_machine -/
/-- a triple of a run: name, argument, state behind -/
def TrAt (H : Hp) (v : V) (t : Nat × Int × Int) : Prop := ∃ a, v = .ref a ∧ H a = some (.tup [.str (nmS t.1), .int t.2.1, .int t.2.2])
theorem Ext.trs {H H' : Hp} (e : Ext H H') {vs : List V} {ts : List (Nat × Int × Int)} (h : Paired (TrAt H) vs ts) : Paired (TrAt H') vs ts := L2.Paired.mapP h fun _ _ ⟨a, h1, h2⟩ => ⟨a, h1, e.tup h2⟩
def spRunM : Sp := fun vs H Q _ => ∃ (mv : V) (m : Mc) (r : Addr) (row : List Int), vs = [mv, .ref r] ∧ McAt H mv m ∧ Mc.wf m ∧ RowAt H r row ∧ row.length ≤ 1000 ∧
  (m.run row = none → ∀ o H', Ext H H' → NoVal H' o → Q (.ref o) H') ∧
  (∀ ts used, m.run row = some (ts, used) → ∀ p q tvs H', Ext H H' → H' p = some (.tup [.str "value", .ref q, .int (used : Int)]) → H' q = some (.tup tvs) → Paired (TrAt H') tvs ts → ts.length ≤ 4 → Q (.ref p) H')
theorem scRunM : FnScope ["some_machine", "row", "place", "state", "value", "_", "ended", "triple", "later"] ["some_machine", "row"] (defScope sRunM) := ⟨rfl, rfl, rfl, by decide +kernel, rfl, by decide +kernel, by decide +kernel⟩
theorem run_bad {cs : List Cm} {row : List Int} {n place : Nat} {s : Int} {acc : List (Nat × Int × Int)} (h : step cs row place s = .bad) : CRM.run cs row (n + 1) place s acc = none := by
  unfold CRM.run
  rw [h]
theorem run_fin {cs : List Cm} {row : List Int} {n place p : Nat} {s : Int} {acc : List (Nat × Int × Int)} (h : step cs row place s = .fin p) : CRM.run cs row (n + 1) place s acc = some (acc, p) := by
  unfold CRM.run
  rw [h]
theorem run_go {cs : List Cm} {row : List Int} {n place p nm : Nat} {s a s' : Int} {acc : List (Nat × Int × Int)} (h : step cs row place s = .go a s' nm p) : CRM.run cs row (n + 1) place s acc = CRM.run cs row n p s' (acc ++ [(nm, a, s')]) := by
  conv => lhs; unfold CRM.run
  rw [h]
theorem step_place {cs : List Cm} {row : List Int} {place p nm : Nat} {s a s' : Int} (h : step cs row place s = .go a s' nm p) : p = place + 3 := by
  obtain ⟨_, _, _, _, _, _, _, _, _, _, h1⟩ := step_go h
  exact h1
theorem ok_run {f fO : Addr} {fd fdO : FuncData} (F : FnP K "run_machine" "run_machine" sRunM f fd) (hrange : mg "range" = none)
    (FO : FnOk P w K mg base CX0 10 fO fdO ["some_machine", "row", "place", "state"] spOneStep) (gO : mg "one_step" = some (.ref fO)) (kO : PySem.W.keepIn K (.ref fO) = true) (bO : Binds K fdO ["some_machine", "row", "place", "state"] []) :
    FnOk P w K mg base CX0 11 f fd ["some_machine", "row"] spRunM := by
  refine F.ok scRunM (fun vs H Q E h => ?_) (fun cdv A outer s0 H vs Q E hr h => ?_)
  · obtain ⟨mv, m, r, row, rfl, _⟩ := h
    rfl
  · obtain ⟨mv, m, r, row, rfl, hm, hw, hrow, hz, k1, k2⟩ := h
    have three : 3 ≤ sizeLine := by decide
    refine ⟨_, PSs.nox (pss_cons (ps_set (i := 2) scRunM.nd rfl (Or.inl rfl) pe_int)
        (pss_cons (ps_set (i := 3) scRunM.nd rfl (Or.inl rfl) (pe_ix ix_tup (pv 0) pe_int (fun _ _ => rfl)))
        (pss_cons (ps_set (i := 4) scRunM.nd rfl (Or.inl rfl) (pe_tup pa_nil))
        (pss_cons (ps_for PassesOwn.never rfl (pi_range1 rfl hrange (pa_cons (pe_ix ix_tup (pv 0) pe_int (fun _ _ => rfl)) pa_nil)) (pg_name (i := 5) scRunM.nd rfl (Or.inl rfl))
        (pss_cons (ps_asg (pe_call FO (hr.mono (by decide)) rfl gO kO bO .nil pass0 (pa_cons (pv 0) (pa_cons (pv 1) (pa_cons (pv 2) (pa_cons (pv 3) pa_nil))))) (pg_tup rfl (pgs_cons (pg_name (i := 6) scRunM.nd rfl (Or.inl rfl)) (pgs_cons (pg_name (i := 7) scRunM.nd rfl (Or.inl rfl)) (pgs_cons (pg_name (i := 8) scRunM.nd rfl (Or.inl rfl)) pgs_nil)))))
        (pss_cons (ps_if (pt_cmpR op_notN (pv 6) pe_non (nomark _)) (pss_one (ps_ret (pv 6))) pss_nil)
        (pss_cons (ps_set (i := 2) scRunM.nd rfl (Or.inl rfl) (pv 8))
        (pss_cons (ps_if (pt_cmpR op_isN (pv 7) pe_non (nomark _)) (pss_one (ps_ret (pe_tup (pa_cons (pe_str) (pa_cons (pv 4) (pa_cons (pv 2) pa_nil)))))) pss_nil)
        (pss_cons (ps_set (i := 3) scRunM.nd rfl (Or.inl rfl) (pe_ix ix_tup (pv 7) pe_int (fun _ _ => rfl)))
        (pss_one (ps_set (i := 4) scRunM.nd rfl (Or.inl rfl) (pe_op op_catA (pv 4) (pe_tup (pa_cons (pv 7) pa_nil)))))))))))
        (pss_one (ps_ret (pe_tup (pa_cons (pe_str) (pa_cons (pv 4) (pa_cons (pv 2) pa_nil)))))))))), ?_⟩
    obtain ⟨ma, t, cvs, rfl, h1, h2, h3⟩ := id hm
    refine ⟨_, rfl, _, _, _, _, rfl, rfl, SqT.of h1, at_0, (by show 0 ≤ sizeLine; decide), fun v0 nv0 => ?_⟩
    have e0 : Ext H (upd H v0 (.tup [])) := Ext.of_new nv0
    refine ⟨_, rfl, _, _, _, _, rfl, rfl, SqT.of (e0.tup h1), at_2, (m.most : Int), rfl, by omega, by have := hw.most; omega, ?_⟩
    refine for_range (lo := 0) (n := m.most) (fun i σ H' => ∃ (place : Nat) (s : Int) (q : Addr) (acc : List (Nat × Int × Int)) (tvs : List V) (u5 u6 u7 u8 : Option V), σ = [some (.ref ma), some (.ref r), some (.int (place : Int)), some (.int s), some (.ref q), u5, u6, u7, u8] ∧ Ext H H' ∧
      H' q = some (.tup tvs) ∧ Paired (TrAt H') tvs acc ∧ acc.length = i ∧ place ≤ 3 * i ∧ i ≤ m.most ∧ m.run row = CRM.run m.cs row (m.most - i) place s acc) ?_ ?_ ?_
    · exact ⟨0, m.first, v0, [], [], none, none, none, none, rfl, e0, upd_same, .nil, rfl, Nat.le_refl _, Nat.zero_le _, rfl⟩
    · rintro i σ H1 hi ⟨place, s, q, acc, tvs, u5, u6, u7, u8, rfl, e1, hq, ht, hl, hp, hi', hrun⟩
      have hm4 := hw.most
      have em : m.most - i = (m.most - (i + 1)) + 1 := by omega
      rw [em] at hrun
      refine ⟨_, rfl, _, rfl, _, rfl, _, rfl, .ref ma, m, r, row, place, s, rfl, e1.mc hm, hw, e1.tup hrow, hz, by omega, fun hb p o H2 e2 hp2 ho => ?_, fun pl hf p H2 e2 hp2 => ?_, fun a s' nm pl hg p qq H2 e2 hp2 hqq => ?_⟩
      · refine ⟨p, _, rfl, SqT.of hp2, rfl, _, _, rfl, _, _, rfl, _, _, rfl, rfl, ?_⟩
        refine ⟨_, rfl, rfl, _, rfl, iteT ⟨_, rfl, k1 (hrun.trans (run_bad hb)) o H2 (e1.trans e2) ho⟩⟩
      · refine ⟨p, _, rfl, SqT.of hp2, rfl, _, _, rfl, _, _, rfl, _, _, rfl, rfl, ?_⟩
        refine ⟨_, rfl, rfl, _, rfl, iteF ⟨_, rfl, _, rfl, rfl, _, rfl, iteT ⟨_, rfl, _, rfl, three, fun p3 np3 => ?_⟩⟩⟩
        have e3 : Ext H1 (upd H2 p3 (.tup [.str "value", .ref q, .int (pl : Int)])) := e2.new np3
        exact k2 acc pl (hrun.trans (run_fin hf)) p3 q tvs _ (e1.trans e3) upd_same (e3.tup hq) (e3.trs ht) (by omega)
      · refine ⟨p, _, rfl, SqT.of hp2, rfl, _, _, rfl, _, _, rfl, _, _, rfl, rfl, ?_⟩
        refine ⟨_, rfl, rfl, _, rfl, iteF ⟨_, rfl, _, rfl, rfl, _, rfl, iteF ⟨_, rfl, _, _, _, _, rfl, rfl, SqT.of hqq, at_2, ?_⟩⟩⟩
        refine ⟨_, rfl, _, rfl, (by show 1 ≤ sizeLine; decide), fun b nb => ?_⟩
        have e3 : Ext H1 (upd H2 b (.tup [.ref qq])) := e2.new nb
        have hpl := step_place hg
        have hgo := hrun.trans (run_go hg)
        have htr : TrAt (upd H2 b (.tup [.ref qq])) (.ref qq) (nm, a, s') := ⟨qq, rfl, (Ext.of_new nb).tup hqq⟩
        refine ⟨q, b, tvs, [.ref qq], rfl, rfl, SqT.of (e3.tup hq), SqT.of upd_same, ?_, fun hx => ?_, fun _ hx => (by cases hx), fun _ _ c nc => ?_⟩
        · have := paired_len ht
          exact Nat.le_trans (show tvs.length + 1 ≤ 100000 by omega) (by decide)
        · subst hx
          have ha : acc = [] := List.length_eq_zero_iff.mp (paired_len ht).symm
          subst ha
          exact ⟨pl, s', b, _, _, _, _, _, _, rfl, e1.trans e3, upd_same, .cons htr .nil, by rw [← hl]; rfl, by omega, hi, hgo⟩
        · have e4 : Ext H1 (upd (upd H2 b (.tup [.ref qq])) c (.tup (tvs ++ [.ref qq]))) := e3.new nc
          refine ⟨pl, s', c, _, _, _, _, _, _, rfl, e1.trans e4, upd_same, paired_snoc (e4.trs ht) ?_, by rw [← hl]; simp, by omega, hi, hgo⟩
          exact ⟨qq, rfl, (Ext.of_new nc).tup ((Ext.of_new nb).tup hqq)⟩
    · rintro σ H1 ⟨place, s, q, acc, tvs, u5, u6, u7, u8, rfl, e1, hq, ht, hl, hp, hi', hrun⟩
      rw [Nat.sub_self] at hrun
      refine ⟨_, rfl, _, rfl, three, fun p np => ?_⟩
      exact k2 acc place hrun p q tvs _ (e1.new np) upd_same ((Ext.of_new np).tup hq) ((Ext.of_new np).trs ht) (by have := hw.most; omega)
end
end Cr
set_option Elab.async false
set_option linter.all false
set_option maxRecDepth 100000
set_option maxHeartbeats 4000000
/-! Choicerows: (length, row) < (length, row). -/
namespace Cr
open PySem PySem.Spec PyProof.Rows L2 CRM
section
variable {X : Cx}
/-- the pair of a row's length and the row -/
def lenRow (r : List Int) : PyData := .tuple [.int (r.length : Int), .tuple (r.map .int)]
theorem alikeAll_ints : ∀ (a b : List Int), PySem.W.alikeAll (a.map PyData.int) (b.map PyData.int) = true
  | [], _ => by cases ‹List Int› <;> simp [PySem.W.alikeAll]
  | _ :: _, [] => by simp [PySem.W.alikeAll]
  | x :: xs, y :: ys => by
    rw [List.map_cons, List.map_cons, PySem.W.alikeAll, alikeAll_ints xs ys]
    simp [PySem.W.alike]
theorem alike_lenRow (a b : List Int) : PySem.W.alike (lenRow a) (lenRow b) = true := by
  unfold lenRow
  simp [PySem.W.alike, PySem.W.alikeAll, alikeAll_ints]
theorem eqv_int (x y : Int) : PyData.eqv (.int x) (.int y) = (x == y) := by simp [PyData.eqv]
theorem dataLt_ints : ∀ (a b : List Int), PyProof.Rows.lexLt PyProof.Rows.itemOrd (PySem.W.keyToksAll (a.map PyData.int)) (PySem.W.keyToksAll (b.map PyData.int)) = CRM.lexLt a b
  | [], [] => by simp [CRM.lexLt, PySem.W.keyToksAll, PyProof.Rows.lex_irrefl]
  | [], y :: ys => by
    rw [List.map_cons, PySem.W.toks_all_cons]
    simp only [List.map_nil, PySem.W.keyToksAll]
    rw [PyProof.Rows.lex_diff (O := PyProof.Rows.itemOrd) (by simp)]
    simp [CRM.lexLt, PyProof.Rows.itemLt]
  | x :: xs, [] => by
    rw [List.map_cons, PySem.W.toks_all_cons]
    simp only [List.map_nil, PySem.W.keyToksAll]
    rw [PyProof.Rows.lex_diff (O := PyProof.Rows.itemOrd) (by simp)]
    simp [CRM.lexLt, PyProof.Rows.itemLt]
  | x :: xs, y :: ys => by
    have hal : PySem.W.alike (PyData.int x) (PyData.int y) = true := by simp [PySem.W.alike]
    rw [List.map_cons, List.map_cons]
    by_cases e : x = y
    · rw [PySem.W.dataLt_all_yes hal (by rw [eqv_int]; simp [e]), dataLt_ints xs ys]
      conv => rhs; unfold CRM.lexLt
      rw [if_pos e]
    · rw [PySem.W.dataLt_all_no hal (by rw [eqv_int]; simp [e]), PySem.W.dataLt_int]
      conv => rhs; unfold CRM.lexLt
      rw [if_neg e]
theorem eqvAll_ints : ∀ (a b : List Int), PyData.eqvAll (a.map PyData.int) (b.map PyData.int) = decide (a = b)
  | [], [] => by simp [PyData.eqvAll]
  | [], _ :: _ => by simp [PyData.eqvAll]
  | _ :: _, [] => by simp [PyData.eqvAll]
  | x :: xs, y :: ys => by
    rw [List.map_cons, List.map_cons, PySem.W.eqv_all_cons, eqv_int, eqvAll_ints xs ys, Bool.eq_iff_iff]
    simp
theorem dataLt_lenRow (a b : List Int) : PySem.W.dataLt (lenRow a) (lenRow b) = less a b := by
  unfold lenRow
  rw [PySem.W.dataLt_tuple]
  have hal : PySem.W.alike (PyData.int (a.length : Int)) (PyData.int (b.length : Int)) = true := by simp [PySem.W.alike]
  have hal2 : PySem.W.alike (PyData.tuple (a.map .int)) (PyData.tuple (b.map .int)) = true := by simp [PySem.W.alike, alikeAll_ints]
  unfold less
  by_cases e : a.length = b.length
  · rw [if_pos e, PySem.W.dataLt_all_yes hal (by rw [eqv_int]; simp [e])]
    by_cases e2 : a = b
    · subst e2
      rw [PyProof.Rows.lex_irrefl, lexLt_irrefl]
    · have : PyData.eqv (PyData.tuple (a.map .int)) (PyData.tuple (b.map .int)) = false := by
        show PyData.eqvAll (a.map .int) (b.map .int) = false
        rw [eqvAll_ints]
        exact decide_eq_false e2
      rw [PySem.W.dataLt_all_no hal2 this, PySem.W.dataLt_tuple, dataLt_ints]
  · rw [if_neg e, PySem.W.dataLt_all_no hal (by rw [eqv_int]; simp; omega), PySem.W.dataLt_int]
    exact decide_eq_decide.mpr (by omega)
theorem depth_ints : ∀ (a : List Int), PyData.depthAll (a.map PyData.int) ≤ 0
  | [] => by simp [PyData.depthAll]
  | x :: xs => by
    have := depth_ints xs
    rw [List.map_cons, PyData.depthAll]
    simp [PyData.depth]
    omega
theorem depth_lenRow (a : List Int) : (lenRow a).depth ≤ 2 := by
  have := depth_ints a
  simp [lenRow, PyData.depth, PyData.depthAll]
  omega
theorem dp_ints {K : PySem.W.Frag} {H : Hp} : ∀ (a : List Int), DpAll K H (a.map V.int) (a.map PyData.int)
  | [] => .nil
  | x :: xs => .cons (.int x) (dp_ints xs)
/-- v is the pair (length, row) -/
def LenRow (K : PySem.W.Frag) (H : Hp) (v : V) (r : List Int) : Prop := ∃ p a, v = .ref p ∧ SqT K H p [.int (r.length : Int), .ref a] ∧ SqT K H a (r.map V.int)
theorem LenRow.dp {K : PySem.W.Frag} {H : Hp} {v : V} {r : List Int} (h : LenRow K H v r) : Dp K H v (lenRow r) := by
  obtain ⟨p, a, rfl, h1, h2⟩ := h
  exact .tup h1 (.cons (.int _) (.cons (.tup h2 (dp_ints r)) .nil))
def rLtRow (K : PySem.W.Frag) : R2 := fun x y H Q => ∃ a b, LenRow K H x a ∧ LenRow K H y b ∧ Q (.bl (less a b)) H
theorem op_ltRow (hu : X.A.units + 8 < cLine) : OpR X (compareOp .Lt) (rLtRow X.K) := by
  intro pins s σ H x y v u Q I rx ry h
  obtain ⟨a, b, ha, hb, q⟩ := h
  obtain ⟨as, r1⟩ := Dp.reads I _ x v ha.dp rx
  obtain ⟨bs, r2⟩ := Dp.reads I _ y u hb.dp ry
  have R := PySem.W.rcLt_alike (lenRow a) (lenRow b) X.A s v u as bs r1 r2 (alike_lenRow a b) (by unfold lenRow; intro z; cases z) (by have := depth_lenRow a; have := depth_lenRow b; omega)
  refine R X.prog X.w _ _ ?_
  rw [dataLt_lenRow]
  exact ⟨.bl _, H, I, rfl, q⟩
end
end Cr
set_option Elab.async false
set_option linter.all false
set_option maxRecDepth 100000
set_option maxHeartbeats 4000000
/-! Choicerows: sorted(triples, key=lambda triple: (len(triple[2]), triple[2])). -/
namespace Cr
open PySem PySem.Spec PyProof.Rows L2 CRM
/-! ### the lambda is made -/
/-- the table at P has grown, or not -/
structure Grown (P : Addr) (q : Str) (H H1 : Hp) : Prop where
  tab : LamX.TabS H1 P q
  keep : ∀ b o, H b = some o → Nt o → H1 b = some o
  dom : ∀ b, H1 b = none → H b = none
  other : ∀ b, b ≠ P → ∀ ps, H b = some (.tbl ps) → H1 b = some (.tbl ps)
theorem Grown.ext [Tb] {H H1 : Hp} (g : Grown Tb.p lamQ H H1) : Ext H H1 := by
  refine ⟨g.keep, fun P h => ?_, fun _ => g.tab, g.dom⟩
  by_cases e : P = Tb.p
  · obtain ⟨ps, a, b, _⟩ := g.tab
    exact ⟨ps, by rw [e]; exact a, b⟩
  · obtain ⟨ps, a, b⟩ := h
    exact ⟨ps, g.other P e ps a, b⟩
section
variable {X : Cx} {pins : List (Addr × Obj)} {σ : L2.St} {H : Hp} {s : Shared}
abbrev lamObj (X : Cx) (params : Arguments) (body : Expr) (scope : Scope) (pm : Value) (c' : Addr) (ctv : Value) : Obj :=
  PySem.W.kla_obj "<lambda>" (X.env.qual ++ "<lambda>") params body scope (cloFrom X.env.cells scope.names []) pm c' ctv
theorem lam_new {c P : Addr} {params : Arguments} {body : Expr} {scope : Scope} {pos : Pos} {E : Value → Shared → Prop} {Q : Value → Shared → Prop} (I : Inv X pins σ H s)
    (TB : LamX.TabB X.base X.mg c P) (hcode : X.env.code = .ref c) (hT : LamX.TabS H P (X.env.qual ++ "<lambda>")) (hdef : defaultsOf params X.env = ([], [])) (hfree : ∀ y ∈ scope.names, y.2 = .free → ∃ c, X.env.cells.lookup y.1 = some c)
    (h : ∀ (f c' : Addr) (pm ctv : Value) (H1 : Hp) (s' : Shared), Inv X pins σ H1 s' → Grown P (X.env.qual ++ "<lambda>") H H1 → s'.heap.get? f = some (lamObj X params body scope pm c' ctv) → H1 c' = some (LamX.CodeO c' (X.env.qual ++ "<lambda>")) → Q (.ref f) s') :
    wpAny (model X.prog X.w) X.A (eval (.Lambda params body scope pos) X.env) Q E s := by
  obtain ⟨tb, hP, hok, hall⟩ := id hT
  have atP : s.heap.get? P = some { cls := .none, data := .fields tb } := I.hok P _ hP
  apply PySem.W.kla_eval hdef
  cases hit : codeAmong pos tb.toList with
  | some cv =>
    obtain ⟨c', rfl, known⟩ := hall pos cv hit
    apply PySem.W.kla_makeFunctionHit (mg := X.mg) (c := c) (P := P) (ps := tb) (closure_ok hfree) I.ok.glob (I.mod.glob.keeps I.bk) hcode (TB.code.keeps I.bk) atP hok hit (TB.bm.keeps I.bk)
    intro ctv h' tk old _
    exact h h'.objs.size c' _ ctv H _ (I.kept (t' := tk) fun b o e => Heap.get?_push_of_some _ (old b o e)) ⟨hT, fun _ _ e _ => e, fun _ e => e, fun _ _ _ e => e⟩ (Heap.get?_push_size _ rfl) known
  | none =>
    apply PySem.W.kla_makeFunction (mg := X.mg) (c := c) (P := P) (ps := tb) (closure_ok hfree) I.ok.glob (I.mod.glob.keeps I.bk) hcode (TB.code.keeps I.bk) atP hok hit TB.gP (TB.bm.keeps I.bk)
    intro c' ctv h' tk old above below rec after
    obtain ⟨_, oc, vs, t, e2, hoc, hd, hv⟩ := rec
    cases e2
    have free : H c' = none := I.hok.fresh above
    have pc : P ≠ c' := ne_of_none hP free
    have J := LamX.inv_table (t' := tk) (q := X.env.qual ++ "<lambda>") (more := #[rawInt pos.line, rawInt pos.col, .ref c']) (h' := h'.push (lamObj X params body scope ((X.mg "__name__").getD .none) c' ctv)) I hP
      (fun b o ne e => Heap.get?_push_of_some _ (old b o ne e)) (Heap.get?_push_of_some _ after) above ⟨oc, vs, t, Heap.get?_push_of_some _ hoc, hd, hv⟩
    have stay : ∀ b o, H b = some o → Nt o → upd (upd H P (.tbl (tb ++ #[rawInt pos.line, rawInt pos.col, .ref c']))) c' (LamX.CodeO c' (X.env.qual ++ "<lambda>")) b = some o := fun b o e n => by
      have n1 : b ≠ c' := ne_of_none e free
      have n2 : b ≠ P := fun z => by rw [z, hP] at e; exact n tb (Option.some.inj e).symm
      rw [upd_ne n1, upd_ne n2]
      exact e
    have eL : (tb ++ #[rawInt pos.line, rawInt pos.col, .ref c']).toList = tb.toList ++ [rawInt pos.line, rawInt pos.col, .ref c'] := by simp
    refine h h'.objs.size c' _ ctv _ _ J ⟨⟨_, by rw [upd_ne pc, upd_same], by rw [eL]; exact PySem.TriplesOk_snoc _ _ _ _ hok, fun p cv hcv => ?_⟩, stay, fun b e => ?_, fun b nb ps e => ?_⟩ (Heap.get?_push_size _ rfl) upd_same
    · rw [eL] at hcv
      rcases LamX.among_app _ hok hcv with z | z
      · obtain ⟨c0, a, b⟩ := hall p cv z
        exact ⟨c0, a, stay _ _ b nt_ext⟩
      · exact ⟨c', z, upd_same⟩
    · by_cases z : b = c'
      · rw [z]; exact free
      · rw [upd_ne z] at e
        by_cases z2 : b = P
        · rw [z2, upd_same] at e; cases e
        · rw [upd_ne z2] at e; exact e
    · rw [upd_ne (ne_of_none e free), upd_ne nb]
      exact e
end
/-! ### a call of it -/
abbrev lamBody (p1 p2 p3 p4 p5 p6 p7 p8 p9 : Pos) : Expr :=
  .Tuple [.Call (.Name "len" p1) [.Subscript (.Name "triple" p2) (.Constant (.int 2) 0 p3) p4] [] p5, .Subscript (.Name "triple" p6) (.Constant (.int 2) 0 p7) p8] 0 p9
structure LamSc (scope : Scope) : Prop where
  kind : scope.kind = .function
  co : scope.isCoroutine = false
  gen : scope.isGenerator = false
  own : ∀ y ∈ scope.names, y.2 ≠ .cell ∧ y.2 ≠ .free
  tr : scope.names.lookup ("triple" : Str) = some .local
  ln : scope.names.lookup ("len" : Str) = some .globalImplicit
theorem readsAll_ints {h : Heap} : ∀ {ns : List Int} {its : List Value}, Vals (ns.map V.int) its → ReadsAll h its (ns.map PyData.int) []
  | [], _, .nil => .nil
  | n :: ns, _, .cons r t => by
    obtain ⟨tk, rfl⟩ := r
    exact ReadsAll.cons (Reads.int n tk) (readsAll_ints t)
section
variable {P : Program} {w : World} {A : Around} {s : Shared} {mg mb : Str → Option Value}
/-- triple[2] -/
theorem lam_sub {E : Value → Shared → Prop} {Q : Value → Shared → Prop} {env : Env} {m : Str → Option Value} {s : Shared} {p1 p2 p3 : Pos} {j : Nat} {a : Addr} {its : Array Value} {u : Value} (hk : env.scope.kind = .function) (hl : env.scope.names.lookup ("triple" : Str) = some .local)
    (hn : s.heap.Ns env.locals m) (hv : m "triple" = some (.ref a)) (ht : IsTup s.heap a its) (hu : its[2]? = some u) (h : Q u { s with toks := s.toks + 1 }) :
    wpAny (model P w) A (eval (.Subscript (.Name "triple" p1) (.Constant (.int 2) j p2) p3) env) Q E s := by
  refine Subscript_Constant (wpAny_Name (wpAny_loadName_local hk hl hn hv ?_) (by decide +kernel))
  refine wpAny_Constant_int ?_
  have hz : 2 < its.size := (Array.getElem?_eq_some_iff.mp hu).1
  have e1 : seqIndex? (2 : Int) its.size = some 2 := by
    unfold seqIndex?
    simp
    omega
  exact ⟨"tuple", _, slot_tuple_getitem.lookup, ht.typeIs, getItem_tuple ht (by omega) (by omega) e1 hu h⟩
theorem lam_call {f c' : Addr} {q : Str} {params : Arguments} {scope : Scope} {cl : List (Str × Addr)} {pm ctv : Value} {p1 p2 p3 p4 p5 p6 p7 p8 p9 : Pos} {a b : Addr} {its : Array Value} {row : List Value} {ns : List Int} (S : LamSc scope) (room : A.depth < recursionLimit)
    (hf : s.heap.get? f = some (PySem.W.kla_obj "<lambda>" q params (lamBody p1 p2 p3 p4 p5 p6 p7 p8 p9) scope cl pm c' ctv)) (hc : ∃ (oc : Obj) (vs : Array Value) (t : Tok), s.heap.get? c' = some oc ∧ oc.data = .fields vs ∧ vs[1]? = some (.str q t))
    (hbind : bindArgs (PySem.W.kla_fn "<lambda>" q params (lamBody p1 p2 p3 p4 p5 p6 p7 p8 p9) scope cl pm (.ref c') ctv) ⟨[.ref a], []⟩ = pure [(("triple" : Str), .ref a)])
    (lim : s.heap.NoLimit) (G : s.heap.Ns mainGlobals mg) (B : s.heap.Ns builtinsNs mb) (gm : mg "len" = none) (gb : mb "len" = some (.builtin "len")) (ht : IsTup s.heap a its) (h2 : its[2]? = some (.ref b)) (hr : IsTup s.heap b row.toArray) (hi : Vals (ns.map V.int) row) (hz : ns.length ≤ sizeLine) :
    codeAny (model P w) A (.call (.ref f) ⟨[.ref a], []⟩) (fun r s2 => ∃ v, r = .ok (.ret v) ∧ PySem.W.KeyPure (lenRow ns) s v s2) s := by
  obtain ⟨oc, vs, t, hoc, hd, hv⟩ := hc
  refine PySem.W.kla_callFunE room hf rfl S.co S.gen rfl ⟨c', oc, vs, t, rfl, hoc, hd, hv⟩ ?_
  rw [hbind]
  refine wpAny_pure (wpAny_newFunctionEnv (fun y hy => (S.own y hy).1) (fun y hy => ?_) (fun h₁ hns hsb => ⟨lim.fresh _ hsb, ?_⟩) S.kind)
  · rw [List.mem_singleton] at hy
    rw [hy]
    exact S.tr
  have kp : ∀ b o, s.heap.get? b = some o → h₁.get? b = some o := fun b o e => hsb.extBut b o (Nat.ne_of_lt (Heap.lt_size e)) (Heap.get?_push_of_some _ e)
  refine PySem.W.kla_codeExpr ?_
  have hm : (fun x => [(("triple" : Str), Value.ref a)].reverse.lookup x) "triple" = some (.ref a) := by
    show ([(("triple" : Str), Value.ref a)].lookup ("triple" : Str)) = _
    simp [List.lookup]
  have hl : row.length = ns.length := by have := Vals.length hi; rw [List.length_map] at this; exact this.symm
  refine wpAny_Tuple (Calls.spliced_cons ?_)
  refine wpAny_Call_Name_kw (Calls.Name_function_global S.kind S.ln (Calls.loadGlobal_builtin (G.keeps kp) gm (B.keeps kp) gb ?_) (by decide +kernel))
  refine PyProof.Rows.callWith_builtin1 (Calls.spliced_cons (lam_sub S.kind S.tr hns hm (ht.keeps kp) h2 (Calls.spliced_nil ?_)))
  refine len_tuple (hr.keeps kp) (by rw [List.size_toArray]; have := line63; omega) ?_
  refine Calls.spliced_cons (lam_sub S.kind S.tr hns hm (ht.keeps kp) h2 (Calls.spliced_nil ?_))
  refine ⟨by show 2 ≤ sizeLine; decide, _, rfl, _, _, rfl, fun b o e => Heap.get?_push_of_some _ (kp b o e), ?_⟩
  refine Reads.tuple (Heap.get?_push_size _ rfl) rfl rfl ?_
  obtain ⟨o, ho, hcl, n, hdt⟩ := hr
  have r2 : Reads (h₁.push { cls := .type "tuple", data := .seq #[.int (row.toArray.size : Int) (s.toks + 1 + 1 + 1), .ref b] }) (.ref b) (.tuple (ns.map .int)) [] := Reads.tuple (Heap.get?_push_of_some _ (kp _ _ ho)) hcl hdt (by simpa using readsAll_ints hi)
  have e : ((row.toArray.size : Nat) : Int) = (ns.length : Int) := by rw [List.size_toArray, hl]
  show ReadsAll _ [Value.int ((row.toArray.size : Nat) : Int) _, .ref b] [.int (ns.length : Int), .tuple (ns.map .int)] []
  rw [← e]
  exact ReadsAll.cons (Reads.int _ _) (ReadsAll.cons r2 ReadsAll.nil)
end
/-! ### the rule -/
/-- v is a triple whose row is r -/
def RowTr (H : Hp) (v : V) (r : List Int) : Prop := ∃ a x y b, v = .ref a ∧ H a = some (.tup [x, y, .ref b]) ∧ H b = some (.tup (r.map V.int))
def qSortLam (P : Addr) (q : Str) (Q : VK) : List V → Hp → Prop := fun vs H1 => ∃ (l : Addr) (xs : List V) (rows : List (List Int)), vs = [.ref l] ∧ H1 l = some (.lst xs) ∧ Paired (RowTr H1) xs rows ∧ rows.Pairwise (fun a b => less a b = true) ∧ LamX.TabS H1 P q ∧
  ∀ H2, Grown P q H1 H2 → ∀ p, H2 p = none → Q (.ref p) (upd H2 p (.lst xs))
def tSortLam (P : Addr) (q : Str) (te : TE) : TE := fun σ H Q => tCons te tNil σ H (qSortLam P q Q)
theorem each_of {α β : Type} {F : α → β → Prop} : ∀ {xs : List α} {ys : List β}, Paired F xs ys → PySem.W.EachIs F xs ys
  | _, _, .nil => .nil
  | _, _, .cons h t => .cons h (each_of t)
theorem each_zip {α β : Type} {R : α → β → Prop} : ∀ {xs : List α} {ys : List β}, Paired R xs ys → PySem.W.EachIs (fun a p => a = p.1 ∧ R p.1 p.2) xs (xs.zip ys)
  | _, _, .nil => .nil
  | _, _, .cons h t => .cons ⟨rfl, h⟩ (each_zip t)
theorem each_fst {α β : Type} {F : α → α × β → Prop} (hF : ∀ a p, F a p → a = p.1) : ∀ {out : List α} {ps : List (α × β)}, PySem.W.EachIs F out ps → out = ps.map (·.1)
  | _, _, .nil => rfl
  | _, _, .cons h t => by rw [List.map_cons, ← hF _ _ h, ← each_fst hF t]
theorem zip_fst {α β : Type} : ∀ {xs : List α} {ys : List β}, xs.length = ys.length → (xs.zip ys).map (·.1) = xs
  | [], [], _ => rfl
  | [], _ :: _, h => by simp at h
  | _ :: _, [], h => by simp at h
  | x :: xs, y :: ys, h => by rw [List.zip_cons_cons, List.map_cons, zip_fst (by simpa using h)]
theorem zip_snd {α β : Type} : ∀ {xs : List α} {ys : List β}, xs.length = ys.length → (xs.zip ys).map (·.2) = ys
  | [], [], _ => rfl
  | [], _ :: _, h => by simp at h
  | _ :: _, [], h => by simp at h
  | x :: xs, y :: ys, h => by rw [List.zip_cons_cons, List.map_cons, zip_snd (by simpa using h)]
section
variable {X : Cx}
theorem pe_sortLam {c P : Addr} {k : Nat} {e : Expr} {te : TE} {params : Arguments} {scope : Scope} {p lpos kpos pos p1 p2 p3 p4 p5 p6 p7 p8 p9 : Pos} (hr : Room k X.A) (hg : Gl X "sorted") (hm : X.mg "sorted" = none) (hl : X.mg "len" = none)
    (TB : LamX.TabB X.base X.mg c P) (hcode : X.env.code = .ref c) (S : LamSc scope) (hdef : defaultsOf params X.env = ([], [])) (he : PE X e te)
    (hbind : ∀ (q : Str) (cl : List (Str × Addr)) (pm cv ctv v : Value), bindArgs (PySem.W.kla_fn "<lambda>" q params (lamBody p1 p2 p3 p4 p5 p6 p7 p8 p9) scope cl pm cv ctv) ⟨[v], []⟩ = pure [(("triple" : Str), v)])
    (hs : starEach [e] X.env = (false, eval e X.env) :: starEach [] X.env := by rfl) :
    PE X (.Call (.Name "sorted" p) [e] [⟨some "key", .Lambda params (lamBody p1 p2 p3 p4 p5 p6 p7 p8 p9) scope lpos, kpos⟩] pos) (tSortLam P (X.env.qual ++ "<lambda>") te) := by
  refine ⟨fun pins s σ H Q I h => ?_⟩
  refine wpAny_Call_Name_kw (ld_blt I hg hm boot_sorted ?_ (by decide) (by decide))
  have pa := pa_cons he pa_nil hs
  have hb : backTo pos (starEach [e] X.env) = (false, eval e X.env) :: backTo pos (starEach [] X.env) := by rw [hs]; rfl
  refine PyProof.Rows.callWith_kw (thn (pa.run pos pins s σ H (qSortLam P (X.env.qual ++ "<lambda>") Q) I ?_) fun us s1 ⟨vs, H1, I1, r1, q1⟩ => ?_) hb (by rw [hb]; rfl) rfl rfl
  rotate_left
  · obtain ⟨l, xs, rows, rfl, hxs, hrows, hord, hT, q⟩ := q1
    obtain rfl := Vals.ref1 r1
    show wpAny _ _ (evalAll [(do let v ← eval (.Lambda params (lamBody p1 p2 p3 p4 p5 p6 p7 p8 p9) scope lpos) X.env; standAt pos; pure v)]) _ _ s1
    refine wpAny_evalAll_cons (wpAny_bind (lam_new I1 TB hcode hT hdef (fun y hy e => absurd e (S.own y hy).2) fun f c' pm ctv H2 s2 I2 g2 hf hco => wpAny_bind (wpAny_standAt (wpAny_pure ?_))))
    refine wpAny_evalAll_nil ?_
    show wpAny _ _ (call (.builtin "sorted") [.ref l] [(Str.ofString "key", .ref f)]) _ _ s2
    have hxs2 : H2 l = some (.lst xs) := g2.keep _ _ hxs nt_lst
    obtain ⟨hz, its, n, rv, hob⟩ := I2.hok l _ hxs2
    obtain ⟨oc, vs, t, hoc, hdc, hvc⟩ := (I2.hok c' _ hco).1
    have lim : s2.heap.NoLimit := I2.nolimit
    obtain ⟨mb, hmb, hmb2⟩ := I2.mod.blt
    have hmb := hmb.keeps I2.bk
    have hmg := I2.mod.glob.keeps I2.bk
    have hlen := paired_len hrows
    have hil := rv.length
    -- the items by their rows
    have rr : Paired (fun (v : Value) (r : List Int) => ∃ a it b row, v = .ref a ∧ IsTup s2.heap a it ∧ it[2]? = some (.ref b) ∧ IsTup s2.heap b row.toArray ∧ Vals (r.map V.int) row ∧ r.length ≤ sizeLine) its rows := by
      have gen : ∀ {xs : List V} {rows : List (List Int)} {its : List Value}, Paired (RowTr H1) xs rows → Vals xs its → Paired (fun (v : Value) (r : List Int) => ∃ a it b row, v = .ref a ∧ IsTup s2.heap a it ∧ it[2]? = some (.ref b) ∧ IsTup s2.heap b row.toArray ∧ Vals (r.map V.int) row ∧ r.length ≤ sizeLine) its rows := by
        intro xs rows its hp hv
        induction hp generalizing its with
        | nil => cases hv; exact .nil
        | cons h t ih =>
          cases hv with
          | cons r rs =>
            refine .cons ?_ (ih rs)
            obtain ⟨a, x, y, b, rfl, h1, h2⟩ := h
            cases r
            obtain ⟨z1, it, v1, t1⟩ := I2.hok a _ (g2.keep _ _ h1 nt_tup)
            obtain ⟨z2, row, v2, t2⟩ := I2.hok b _ (g2.keep _ _ h2 nt_tup)
            cases v1 with
            | cons w1 v1 =>
              obtain ⟨u2, u3, rfl, e2, e3⟩ := vals2 v1
              cases e3
              exact ⟨a, _, b, row, rfl, t1, rfl, t2, v2, by rw [List.length_map] at z2; exact z2⟩
      exact gen hrows rv
    have hll : its.length = rows.length := by rw [← hil, hlen]
    refine PySem.W.sorted_key_data (b := false) (β := Value × List Int) (bs := its.zip rows) (vs := its) (fun p => lenRow p.2) ⟨_, hob, rfl, n, rfl⟩ (each_zip rr) (PySem.W.AllAlike.of fun _ _ => alike_lenRow _ _) (PySem.W.Sortable.tuples fun _ => ⟨_, _, rfl⟩) (by rw [List.length_zip, hll, Nat.min_self]; omega) (fun p _ => by have := depth_lenRow p.2; have := hr.un; omega)
      (PyProof.Rows.ksk_s1 _ _) (fun _ => PyProof.Rows.ksk_l1 _ _) (fun _ => PyProof.Rows.ksk_t1 _ _) (fun v p hv hp h tk kp => ?_) fun out c h' tk kp nf hD _ eo => ?_
    · obtain ⟨rfl, a, it, b, row, e1, t1, e2, t2, v2, z2⟩ := hv
      rw [e1]
      refine wpAny_call (codeAny_mono (lam_call (s := { s2 with heap := h, toks := tk }) (cl := cloFrom X.env.cells scope.names []) S (by have := hr.dp; show X.A.depth < _; omega) (kp _ _ hf) ⟨oc, vs, t, kp _ _ hoc, hdc, hvc⟩ (hbind _ _ _ _ _ _) (lim.keeps kp) (hmg.keeps kp) (hmb.keeps kp) hl ((hmb2 _ (by decide)).trans PySem.boot_len) (t1.keeps kp) e2 (t2.keeps kp) v2 z2) fun r s3 q3 => ?_)
      obtain ⟨v, rfl, q3⟩ := q3
      exact q3
    · have hso : (its.zip rows).mergeSort (PySem.W.dataLe false fun p : Value × List Int => lenRow p.2) = its.zip rows := by
        refine List.mergeSort_of_pairwise ?_
        have hp : ((its.zip rows).map (·.2)).Pairwise (fun a b => less a b = true) := by rw [zip_snd hll]; exact hord
        rw [List.pairwise_map] at hp
        refine hp.imp fun {x y} hxy => ?_
        show (!PySem.W.dataLt (lenRow y.2) (lenRow x.2)) = true
        rw [dataLt_lenRow, leq_of_less hxy]
        rfl
      rw [hso] at eo
      have eo2 : out = its := (each_fst (fun _ _ h => h.1) eo).trans (zip_fst hll)
      subst eo2
      exact ⟨.ref _, upd H2 (s2.heap.objs.size + 1) (.lst xs), I2.laid (t' := tk) kp (Nat.le_succ _) ⟨hz, _, c, rv, hD⟩, rfl, q H2 g2 _ (I2.hok.fresh (Nat.le_succ _))⟩
  · exact h
end
end Cr
set_option Elab.async false
set_option linter.all false
set_option maxRecDepth 100000
set_option maxHeartbeats 4000000
/-! Choicerows: tables: parts_of, check_many, in_order, put_together, triples_of, table_at, table. -/
namespace Cr
open PySem PySem.Spec PyProof.Rows L2 CRM
/-! ### small things -/
def tNeverE : TE := fun _ _ _ => False
theorem pe_neverE {X : Cx} {e : Expr} : PE X e tNeverE := ⟨fun _ _ _ _ _ _ h => h.elim⟩
theorem tup_stay {H : Hp} {D : Addr} {acc : List V} {o : HO} (h : H D = some (.lst acc)) {a : Addr} {xs : List V} (e : H a = some (.tup xs)) : upd H D o a = some (.tup xs) := by
  rw [upd_ne (ne_of e h (by intro z; cases z))]; exact e
theorem noext {H : Hp} {D : Addr} {o : HO} (h : H D = some o) (ho : ∀ φ, o ≠ .ext φ) : ∀ φ, H D ≠ some (.ext φ) := fun φ z => ho φ (Option.some.inj (h.symm.trans z))
theorem lst_ext {xs : List V} : ∀ φ, HO.lst xs ≠ .ext φ := fun φ z => by cases z
theorem dK_ext {xs : List (Key × V)} : ∀ φ, HO.dK xs ≠ .ext φ := fun φ z => by cases z
/-- a def whose code object is known -/
theorem okC {P : Program} {w : World} {K : PySem.W.Frag} {mg : Str → Option Value} {base : Heap} {x q : Str} {st : Stmt} {f c : Addr} {fd : FuncData} {CX : CXT} {N ps : List Str} {k : Nat} {sp : Sp} (F : FnP K x q st f fd) (hc : fd.code = .ref c) (S : FnScope N ps (defScope st)) (len : ∀ vs H Q E, sp vs H Q E → vs.length = ps.length)
    (hbody : ∀ (A : Around) (outer : List Env) (s : Shared) (H : Hp) (vs : List V) (Q : VK) (E : XK), Room k (A.deeper (envOfC q (defScope st) s.heap.objs.size f (.ref c))) → sp vs H Q E →
      ∃ t, PSs (cxOf CX P w K mg base N q (defScope st) f (.ref c) A outer s H E) (defBody st) t ∧ t { nx := fun _ H' => Q .non H', rt := Q } (L2.start N vs) H) : FnOk P w K mg base CX (k + 1) f fd ps sp := by
  obtain ⟨oc, od, dV, kV, doc, pm, an, cdv, ct, osl, rfl, lk, hcd, _, _⟩ := F.ex
  have e : cdv = .ref c := hc
  subst e
  exact fn_of lk hcd S len fun A outer s H vs Q E hr hsp => hbody A outer s H vs Q E hr hsp
/-- value, 1, row -/
def TripAt (H : Hp) (v : V) (t : Int × List Int) : Prop := ∃ p b, v = .ref p ∧ H p = some (.tup [.int t.1, .int 1, .ref b]) ∧ H b = some (.tup (t.2.map V.int))
def EntAt (H : Hp) (kv : Key × V) (t : Int × List Int) : Prop := kv.1 = .inl t.1 ∧ ∃ q b, kv.2 = .ref q ∧ H q = some (.tup [.int 1, .ref b]) ∧ H b = some (.tup (t.2.map V.int))
theorem TripAt.stay {H H' : Hp} (k : ∀ a xs, H a = some (.tup xs) → H' a = some (.tup xs)) {vs : List V} {ts : List (Int × List Int)} (h : Paired (TripAt H) vs ts) : Paired (TripAt H') vs ts :=
  L2.Paired.mapP h fun _ _ ⟨p, b, h1, h2, h3⟩ => ⟨p, b, h1, k _ _ h2, k _ _ h3⟩
theorem EntAt.stay {H H' : Hp} (k : ∀ a xs, H a = some (.tup xs) → H' a = some (.tup xs)) {vs : List (Key × V)} {ts : List (Int × List Int)} (h : Paired (EntAt H) vs ts) : Paired (EntAt H') vs ts :=
  L2.Paired.mapP h fun _ _ ⟨h0, q, b, h1, h2, h3⟩ => ⟨h0, q, b, h1, k _ _ h2, k _ _ h3⟩
theorem TripAt.rows {H : Hp} : ∀ {vs : List V} {ts : List (Int × List Int)}, Paired (TripAt H) vs ts → Paired (RowTr H) vs (ts.map (·.2))
  | _, _, .nil => .nil
  | _, _, .cons ⟨p, b, h1, h2, h3⟩ t => .cons ⟨p, _, _, b, h1, h2, h3⟩ (TripAt.rows t)
/-! ### the tables in plain words -/
theorem full_len (g : Gn) (h : g.lo ≤ g.hi) : (g.full.length : Int) = g.hi - g.lo + 1 := by
  unfold Gn.full
  rw [List.length_map, List.length_range]
  omega
theorem full_get (g : Gn) {i : Nat} (h : (i : Int) < g.hi - g.lo + 1) : g.full[i]? = some (g.lo + (i : Int), [(i : Int)]) := by
  unfold Gn.full
  rw [List.getElem?_map, List.getElem?_range (by omega)]
  rfl
theorem tab_none {g : Gn} (h : g.kc = none) : g.tab = g.full := by
  unfold Gn.tab
  rw [List.filter_eq_self]
  intro a _
  unfold Gn.keeps
  rw [h]
theorem tab_sub (g : Gn) : g.tab.Sublist g.full := List.filter_sublist
theorem full_vals (g : Gn) : (g.full.map (·.1)).Nodup := by
  unfold Gn.full
  rw [List.map_map]
  refine List.Pairwise.map _ ?_ List.nodup_range
  intro a b hab
  simp only [Function.comp]
  omega
theorem full_rows (g : Gn) : (g.full.map (·.2)).Pairwise (fun a b => less a b = true) := by
  unfold Gn.full
  rw [List.map_map]
  refine List.Pairwise.map _ ?_ List.pairwise_lt_range
  intro a b hab
  show less [(a : Int)] [(b : Int)] = true
  unfold less CRM.lexLt
  rw [if_pos (show [(a : Int)].length = [(b : Int)].length from rfl), if_neg (by omega)]
  exact decide_eq_true (by omega)
theorem tab_vals (g : Gn) : (g.tab.map (·.1)).Nodup := List.Nodup.sublist ((tab_sub g).map _) (full_vals g)
theorem tab_rows (g : Gn) : (g.tab.map (·.2)).Pairwise (fun a b => less a b = true) := List.Pairwise.sublist ((tab_sub g).map _) (full_rows g)
theorem tab_len {g : Gn} (h : Gn.wf g) : g.tab.length ≤ 3 := by
  have h1 := (tab_sub g).length_le
  have h2 := full_len g h.le
  have := h.few
  omega
section
variable [Tb] {P : Program} {w : World} {K : PySem.W.Frag} {mg : Str → Option Value} {base : Heap}
/-! ### parts_of -/
def spParts : Sp := fun vs H Q _ => ∃ (gv : V) (g : Gn), vs = [gv] ∧ GnAt H gv g ∧
  (g.kc = none → ∀ p H', Ext H H' → H' p = some (.lst []) → Q (.ref p) H') ∧
  (∀ c a u z, g.kc = some c → gv = .ref a → H a = some (.tup [.str "kept", u, z]) → ∀ p H', Ext H H' → H' p = some (.lst [u]) → Q (.ref p) H')
theorem scParts : FnScope ["generator", "name"] ["generator"] (defScope sParts) := ⟨rfl, rfl, rfl, by decide +kernel, rfl, by decide +kernel, by decide +kernel⟩
theorem ok_parts {f : Addr} {fd : FuncData} (F : FnP K "parts_of" "parts_of" sParts f fd) (hlist : mg "list" = none) : FnOk P w K mg base CX0 1 f fd ["generator"] spParts := by
  refine F.ok scParts (fun vs H Q E h => ?_) (fun cdv A outer s0 H vs Q E hr h => ?_)
  · obtain ⟨gv, g, rfl, _⟩ := h
    rfl
  · obtain ⟨gv, g, rfl, hg, k1, k2⟩ := h
    refine ⟨_, PSs.nox (pss_cons (ps_set (i := 1) scParts.nd rfl (Or.inl rfl) (pe_ix ix_tup (pv 0) pe_int (fun _ _ => rfl)))
        (pss_cons (ps_if (pt_cmpR op_in_seq (pv 1) (pe_tup (pa_cons (pe_str) (pa_cons (pe_str) pa_nil))) (by rfl)) pss_never pss_nil)
        (pss_cons (ps_if (pt_cmpR op_in_seq (pv 1) (pe_tup (pa_cons (pe_str) (pa_cons (pe_str) (pa_cons (pe_str) pa_nil)))) (by rfl)) (pss_one (ps_ret (pe_lst (pa_cons (pe_ix (r := rIxT K) ix_tup (pv 0) pe_int (fun _ _ => rfl)) pa_nil)))) pss_nil)
        (pss_cons (ps_if (pt_cmpR op_eq (pv 1) pe_str (nomark _)) pss_never pss_nil)
        (pss_one (ps_ret (pe_lst pa_nil))))))), ?_⟩
    have two : 2 ≤ sizeLine := by decide
    have three : 3 ≤ sizeLine := by decide
    unfold GnAt at hg
    cases hk : g.kc with
    | none =>
      rw [hk] at hg
      obtain ⟨a, rfl, h1⟩ := hg
      refine ⟨_, rfl, _, _, _, _, rfl, rfl, SqT.of h1, at_0, ?_⟩
      refine ⟨_, rfl, two, fun t nt => ⟨t, _, rfl, .inr (SqT.of upd_same), rfl, rfl, _, rfl, ite_bf (by decide +kernel) ?_⟩⟩
      refine ⟨_, rfl, three, fun u nu => ⟨u, _, rfl, .inr (SqT.of upd_same), rfl, rfl, _, rfl, ite_bf (by decide +kernel) ?_⟩⟩
      refine ⟨_, rfl, rfl, _, rfl, ite_bf (by decide +kernel) ⟨by show 0 ≤ sizeLine; decide, fun p np => ?_⟩⟩
      exact k1 hk p _ (((Ext.of_new nt).new nu).new np) upd_same
    | some c =>
      rw [hk] at hg
      obtain ⟨a, u, z, rfl, h1, _, _⟩ := hg
      refine ⟨_, rfl, _, _, _, _, rfl, rfl, SqT.of h1, at_0, ?_⟩
      refine ⟨_, rfl, two, fun t nt => ⟨t, _, rfl, .inr (SqT.of upd_same), rfl, rfl, _, rfl, ite_bf (by decide +kernel) ?_⟩⟩
      refine ⟨_, rfl, three, fun t2 nt2 => ⟨t2, _, rfl, .inr (SqT.of upd_same), rfl, rfl, _, rfl, ite_bt (by decide +kernel) ?_⟩⟩
      have e := (Ext.of_new (o := .tup [.str "tuple", .str "one"]) nt).new (o := .tup [.str "list", .str "kept", .str "turned"]) nt2
      refine ⟨_, rfl, _, _, _, _, rfl, rfl, SqT.of (e.tup h1), at_1, by show 1 ≤ sizeLine; decide, fun p np => ?_⟩
      exact k2 c a u z hk rfl h1 p _ (e.new np) upd_same
/-! ### check_many -/
def spCheck : Sp := fun vs H Q _ => ∃ (n : Int) (v : V), vs = [.int n, v] ∧ n ≤ 2000 ∧ Q .non H
theorem scCheck : FnScope ["many", "path"] ["many", "path"] (defScope sChkMany) := ⟨rfl, rfl, rfl, by decide +kernel, rfl, by decide +kernel, by decide +kernel⟩
theorem ok_check {f : Addr} {fd : FuncData} {tV : Tok} (F : FnP K "check_many" "check_many" sChkMany f fd) (hV : mg "VALUES" = some (.int 2000 tV)) : FnOk P w K mg base CX0 1 f fd ["many", "path"] spCheck := by
  refine F.ok scCheck (fun vs H Q E h => ?_) (fun cdv A outer s0 H vs Q E hr h => ?_)
  · obtain ⟨n, v, rfl, _⟩ := h
    rfl
  · obtain ⟨n, v, rfl, hn, q⟩ := h
    refine ⟨_, PSs.nox (pss_one (ps_if (pt_cmpR op_gt (pv 0) (pe_glob (v := .int 2000) rfl hV ⟨_, rfl⟩) (nomark _)) pss_never pss_nil)), ?_⟩
    refine ⟨_, rfl, _, _, rfl, rfl, _, rfl, ite_f (by omega) q⟩
/-! ### in_order -/
def spInOrder : Sp := fun vs H Q _ => ∃ (d : Addr) (kvs : List (Key × V)) (ts : List (Int × List Int)), vs = [.ref d] ∧ H d = some (.dK kvs) ∧ Paired (EntAt H) kvs ts ∧ ts.length ≤ 3 ∧ (ts.map (·.2)).Pairwise (fun a b => less a b = true) ∧ LamX.TabS H Tb.p lamQ ∧
  ∀ p xs H', Ext H H' → H' p = some (.lst xs) → Paired (TripAt H') xs ts → Q (.ref p) H'
theorem scInOrder : FnScope ["found", "triples", "value", "count", "row"] ["found"] (defScope sInOrder) := ⟨rfl, rfl, rfl, by decide +kernel, rfl, by decide +kernel, by decide +kernel⟩
theorem ok_in_order {f c : Addr} {fd : FuncData} (F : FnP K "in_order" "in_order" sInOrder f fd) (hc : fd.code = .ref c) (TB : LamX.TabB base mg c Tb.p) (hs : mg "sorted" = none) (hlen : mg "len" = none) : FnOk P w K mg base CX0 1 f fd ["found"] spInOrder := by
  refine okC F hc scInOrder (fun vs H Q E h => ?_) (fun A outer s0 H vs Q E hr h => ?_)
  · obtain ⟨d, kvs, ts, rfl, _⟩ := h
    rfl
  · obtain ⟨d, kvs, ts, rfl, hd, hent, hl3, hord, hT, q⟩ := h
    refine ⟨_, PSs.nox (pss_cons (ps_lock (ps_setLc (i := 1) (own := [("value", 2), ("count", 3), ("row", 4)]) (g := gTup K 2 (gCons (gName 2) (gCons (gTup K 2 (gCons (gName 3) (gCons (gName 4) gNil))) gNil))) (tt := tYes) rfl scInOrder.nd rfl rfl (sw_true rfl rfl rfl (by decide +kernel)) (pi_items (pv 0))
        (blkOk_by (own := [("value", 2), ("count", 3), ("row", 4)]) (N := ["found", "triples", "value", "count", "row"]) (sc := defScope sInOrder) (by decide +kernel))
        (fun _ _ _ _ _ => pg_tup rfl (pgs_cons (pg_name (i := 2) scInOrder.nd rfl (Or.inl rfl)) (pgs_cons (pg_tup rfl (pgs_cons (pg_name (i := 3) scInOrder.nd rfl (Or.inl rfl)) (pgs_cons (pg_name (i := 4) scInOrder.nd rfl (Or.inl rfl)) pgs_nil))) pgs_nil)))
        (fun _ _ _ _ _ => pts_nil) (fun _ _ _ _ _ => pe_tup (pa_cons (pv 2) (pa_cons (pv 3) (pa_cons (pv 4) pa_nil))))))
        (pss_one (ps_ret (pe_sortLam (P := Tb.p) hr rfl hs hlen TB rfl ⟨rfl, rfl, rfl, by decide +kernel, by decide +kernel, by decide +kernel⟩ rfl (pv 1) (fun _ _ _ _ _ _ => rfl))))), ?_⟩
    have hkl := paired_len hent
    refine ⟨d, .dK kvs, hd, trivial, fun od => ⟨_, rfl, d, od, kvs, rfl, upd_same, fun D nD => ?_⟩⟩
    have tk : ∀ {a : Addr} {xs : List V}, H a = some (.tup xs) → (upd H d (.frz od (.dK kvs))) a = some (.tup xs) := fun e => by rw [upd_ne (ne_of e hd (by intro z; cases z))]; exact e
    have hent0 : Paired (EntAt (upd H d (.frz od (.dK kvs)))) kvs ts := EntAt.stay (fun _ _ e => tk e) hent
    refine lc_it walk_items (fun i H' => ∃ acc, H' D = some (.lst acc) ∧ Ext (upd H d (.frz od (.dK kvs))) H' ∧ Paired (TripAt H') acc (ts.take i)) ⟨[], upd_same, Ext.of_new nD, .nil⟩ (fun i H' _ ⟨acc, _, e, _⟩ => e.frz upd_same) ?_ ?_
    · rintro i x H1 H2 hi ⟨acc, hD, e1, hacc⟩ ⟨T, x1, y1, rfl, nT, rfl, hx1, hy1⟩
      obtain ⟨kv, hkv⟩ : ∃ kv, kvs[i]? = some kv := ⟨_, List.getElem?_eq_getElem hi⟩
      have hx1 : (kvs[i]?).map (fun kv => kV kv.1) = some x1 := hx1
      have hy1 : (kvs[i]?).map Prod.snd = some y1 := hy1
      rw [hkv] at hx1 hy1
      have hx1 : kV kv.1 = x1 := Option.some.inj hx1
      have hy1 : kv.2 = y1 := Option.some.inj hy1
      obtain ⟨t, ht, ek, qa, b, ev, g1, g2⟩ := paired_get hent0 hkv
      subst hx1 hy1
      rw [ek, ev]
      have e2 : Ext (upd H d (.frz od (.dK kvs))) (upd H1 T (.tup [kV (Sum.inl t.1), .ref qa])) := e1.new nT
      have hD2 : (upd H1 T (.tup [kV (Sum.inl t.1), .ref qa])) D = some (.lst acc) := by rw [upd_ne (ne_of_none hD nT)]; exact hD
      refine ⟨T, _, rfl, SqT.of upd_same, rfl, _, _, rfl, _, _, rfl, ⟨qa, _, rfl, SqT.of (e2.tup g1), rfl, _, _, rfl, _, _, rfl, rfl, ?_⟩⟩
      have hl := paired_len hacc
      rw [List.length_take] at hl
      refine ⟨rfl, rfl, ?_⟩
      refine ⟨_, rfl, _, rfl, _, rfl, by show 3 ≤ sizeLine; decide, fun p np => ?_⟩
      have hD3 : (upd (upd H1 T (.tup [kV (Sum.inl t.1), .ref qa])) p (.tup [.int t.1, .int 1, .ref b])) D = some (.lst acc) := by rw [upd_ne (ne_of_none hD2 np)]; exact hD2
      refine ⟨acc, hD3, len_lt (by omega), acc ++ [.ref p], upd_same, ?_, ?_⟩
      · exact (e2.new np).put nD (noext hD3 lst_ext)
      · rw [take_more ht]
        refine paired_snoc (TripAt.stay (fun a xs e => tup_stay hD3 (((Ext.of_new nT).new np).tup e)) hacc) ⟨p, b, rfl, tup_stay hD3 upd_same, tup_stay hD3 ((e2.new np).tup g2)⟩
    · rintro H1 ⟨acc, hD, e1, hacc⟩
      rw [hkl, List.take_length] at hacc
      refine ⟨e1.frz upd_same, ?_⟩
      have eU : Ext H (upd H1 d (.dK kvs)) := Ext.unlock hd nt_dK (fun φ z => by cases z) e1
      have hdD : D ≠ d := ne_of hD (e1.frz upd_same) (by intro z; cases z)
      have hD' : (upd H1 d (.dK kvs)) D = some (.lst acc) := by rw [upd_ne hdD]; exact hD
      have hacc' : Paired (TripAt (upd H1 d (.dK kvs))) acc ts := TripAt.stay (fun a xs e => by rw [upd_ne (ne_of e (e1.frz upd_same) (by intro z; cases z))]; exact e) hacc
      refine ⟨_, rfl, D, acc, _, rfl, hD', TripAt.rows hacc', hord, eU.tabS hT, fun H2 g2 p np => ?_⟩
      exact q p acc _ ((eU.trans g2.ext).new np) upd_same (TripAt.stay (fun a xs e => (Ext.of_new np).tup (g2.ext.tup e)) hacc')
/-! ### put_together -/
def spPut : Sp := fun vs H Q _ => ∃ (l : Addr) (xs : List V) (ts : List (Int × List Int)), vs = [.ref l] ∧ H l = some (.lst xs) ∧ Paired (TripAt H) xs ts ∧ ts.length ≤ 3 ∧ (ts.map (·.1)).Nodup ∧ (ts.map (·.2)).Pairwise (fun a b => less a b = true) ∧ LamX.TabS H Tb.p lamQ ∧
  ∀ p xs H', Ext H H' → H' p = some (.lst xs) → Paired (TripAt H') xs ts → Q (.ref p) H'
theorem scPut : FnScope ["triples", "found", "value", "count", "row", "many", "least"] ["triples"] (defScope sPutTog) := ⟨rfl, rfl, rfl, by decide +kernel, rfl, by decide +kernel, by decide +kernel⟩
theorem ent_keys {H : Hp} : ∀ {kvs : List (Key × V)} {ts : List (Int × List Int)}, Paired (EntAt H) kvs ts → kvs.map (·.1) = ts.map fun t => Sum.inl t.1
  | _, _, .nil => rfl
  | _, _, .cons h t => by rw [List.map_cons, List.map_cons, h.1, ent_keys t]
theorem valV_none {kvs : List (Key × V)} {k : Key} (h : k ∉ kvs.map (·.1)) : valV kvs k = none := by
  unfold valV
  rw [List.find?_eq_none.mpr (fun kv hm => by
    intro z
    exact h (List.mem_map.mpr ⟨kv, hm, of_decide_eq_true z⟩))]
  rfl
theorem putK_new {kvs : List (Key × V)} {k : Key} {v : V} (h : k ∉ kvs.map (·.1)) : putK kvs k v = kvs ++ [(k, v)] := by
  unfold putK
  rw [if_neg]
  intro z
  obtain ⟨kv, hm, e⟩ := List.any_eq_true.mp z
  exact h (List.mem_map.mpr ⟨kv, hm, of_decide_eq_true e⟩)
theorem ok_put {f fI : Addr} {fd fdI : FuncData} (F : FnP K "put_together" "put_together" sPutTog f fd)
    (FI : FnOk P w K mg base CX0 1 fI fdI ["found"] spInOrder) (gI : mg "in_order" = some (.ref fI)) (kI : PySem.W.keepIn K (.ref fI) = true) (bI : Binds K fdI ["found"] []) : FnOk P w K mg base CX0 2 f fd ["triples"] spPut := by
  refine F.ok scPut (fun vs H Q E h => ?_) (fun cdv A outer s0 H vs Q E hr h => ?_)
  · obtain ⟨l, xs, ts, rfl, _⟩ := h
    rfl
  · obtain ⟨l, xs, ts, rfl, hl, htr, h3, hnd, hord, hT, q⟩ := h
    have hu := hu_of hr
    have nd := scPut.nd
    refine ⟨_, PSs.nox (pss_cons (ps_set (i := 1) nd rfl (Or.inl rfl) pe_dnewK)
        (pss_cons (ps_for PassesOwn.never rfl (pi_list (pv 0)) (pg_tup rfl (pgs_cons (pg_name (i := 2) nd rfl (Or.inl rfl)) (pgs_cons (pg_name (i := 3) nd rfl (Or.inl rfl)) (pgs_cons (pg_name (i := 4) nd rfl (Or.inl rfl)) pgs_nil))))
        (pss_cons (ps_if (pt_cmp (pc_din hu (pv 2) (pv 1))) pss_never pss_nil)
        (pss_one (ps_dput hu (pv 1) (pv 2) (pe_tup (pa_cons (pv 3) (pa_cons (pv 4) pa_nil))) rfl))))
        (pss_one (ps_ret (pe_call FI hr rfl gI kI bI .nil pass0 (pa_cons (pv 1) pa_nil)))))), ?_⟩
    intro d nd0
    have e0 : Ext H (upd H d (.dK [])) := Ext.of_new nd0
    refine ⟨_, rfl, l, rfl, ⟨_, SqL.of (e0.lst hl)⟩, ?_⟩
    refine for_list (K := K) (a := l) (xs := xs) (fun i σ H' => ∃ kvs u2 u3 u4 u5 u6, σ = [some (.ref l), some (.ref d), u2, u3, u4, u5, u6] ∧ Ext H H' ∧ H' d = some (.dK kvs) ∧ Paired (EntAt H') kvs (ts.take i)) ?_ ?_ ?_ ?_
    · exact ⟨[], none, none, none, none, none, rfl, e0, upd_same, .nil⟩
    · rintro i σ H' _ ⟨kvs, u2, u3, u4, u5, u6, rfl, e1, hd, he⟩
      exact SqL.of (e1.lst hl)
    · rintro i x σ H1 hx ⟨kvs, u2, u3, u4, u5, u6, rfl, e1, hd, he⟩
      obtain ⟨t, ht, p, b, rfl, g1, g2⟩ := paired_get htr hx
      have hlen := paired_len he
      rw [List.length_take] at hlen
      have hnew : (Sum.inl t.1 : Key) ∉ kvs.map (·.1) := by
        rw [ent_keys he]
        intro z
        obtain ⟨t', hm, e⟩ := List.mem_map.mp z
        have e : t'.1 = t.1 := Sum.inl.inj e
        obtain ⟨j, hj⟩ := List.getElem?_of_mem hm
        have hji : j < i := by
          by_cases c : j < i
          · exact c
          · rw [List.getElem?_take, if_neg c] at hj; cases hj
        rw [List.getElem?_take, if_pos hji] at hj
        have a1 : (ts.map (·.1))[j]? = some t.1 := by rw [List.getElem?_map, hj, ← e]; rfl
        have a2 : (ts.map (·.1))[i]? = some t.1 := by rw [List.getElem?_map, ht]; rfl
        have hil : i < (ts.map (·.1)).length := (List.getElem?_eq_some_iff.mp a2).1
        have := (List.getElem?_inj (by omega : j < (ts.map (·.1)).length) hnd).mp (a1.trans a2.symm)
        omega
      refine ⟨p, _, rfl, SqT.of (e1.tup g1), rfl, _, _, rfl, _, _, rfl, _, _, rfl, rfl, ?_⟩
      refine ⟨_, rfl, _, rfl, d, _, rfl, DGet.k (k := Sum.inl t.1) hd, _, rfl, ?_⟩
      rw [valV_none hnew]
      refine iteF ⟨_, rfl, _, rfl, by show 2 ≤ sizeLine; decide, fun qa nq => ?_⟩
      have hd2 : (upd H1 qa (.tup [.int 1, .ref b])) d = some (.dK kvs) := by rw [upd_ne (ne_of_none hd nq)]; exact hd
      refine ⟨_, rfl, _, rfl, d, _, rfl, DPut.k (k := Sum.inl t.1) hd2 (len_lt (by omega)), ?_⟩
      rw [putK_new hnew]
      have e2 : Ext H (upd (upd H1 qa (.tup [.int 1, .ref b])) d (.dK (kvs ++ [(Sum.inl t.1, .ref qa)]))) := (e1.new nq).put nd0 (noext hd2 dK_ext)
      have tk : ∀ (a : Addr) (xs : List V), H1 a = some (.tup xs) → (upd (upd H1 qa (.tup [.int 1, .ref b])) d (.dK (kvs ++ [(Sum.inl t.1, .ref qa)]))) a = some (.tup xs) := fun a xs e => by
        rw [upd_ne (ne_of e hd (by intro z; cases z))]
        exact (Ext.of_new nq).tup e
      refine ⟨_, _, _, _, _, _, rfl, e2, upd_same, ?_⟩
      rw [take_more ht]
      refine paired_snoc (EntAt.stay tk he) ⟨rfl, qa, b, rfl, ?_, e2.tup g2⟩
      rw [upd_ne (Ne.symm (ne_of_none hd nq)), upd_same]
    · rintro σ H1 ⟨kvs, u2, u3, u4, u5, u6, rfl, e1, hd, he⟩
      rw [paired_len htr, List.take_length] at he
      refine ⟨_, rfl, d, kvs, ts, rfl, hd, he, h3, hord, e1.tabS hT, fun p xs H' e hp hx => q p xs H' (e1.trans e) hp hx⟩
end
end Cr
set_option Elab.async false
set_option linter.all false
set_option maxRecDepth 100000
set_option maxHeartbeats 4000000
/-! Choicerows: triples_of, table_at, table. -/
namespace Cr
open PySem PySem.Spec PyProof.Rows L2 CRM
section
variable [Tb] {P : Program} {w : World} {K : PySem.W.Frag} {mg : Str → Option Value} {base : Heap}
/-! ### triples_of -/
def spTri : Sp := fun vs H Q _ => ∃ (gv : V) (g : Gn) (tl : Addr) (pth : V), vs = [gv, .ref tl, pth] ∧ GnAt H gv g ∧ Gn.wf g ∧ (∀ c, g.kc = some c → ∃ t0 ys, H tl = some (.lst [.ref t0]) ∧ H t0 = some (.lst ys) ∧ Paired (TripAt H) ys g.full) ∧
  ∀ p xs H', Ext H H' → H' p = some (.lst xs) → Paired (TripAt H') xs g.tab → Q (.ref p) H'
theorem scTri : FnScope ["generator", "tables", "path", "name", "many", "found", "k", "triple"] ["generator", "tables", "path"] (defScope sTriples) := ⟨rfl, rfl, rfl, by decide +kernel, rfl, by decide +kernel, by decide +kernel⟩
theorem ok_tri {f fH fC : Addr} {fd fdH fdC : FuncData} (F : FnP K "triples_of" "triples_of" sTriples f fd) (hrange : mg "range" = none) (FH : FnP K "holds" "holds" sHolds fH fdH) (gH : mg "holds" = some (.ref fH))
    (FC : FnOk P w K mg base CX0 1 fC fdC ["many", "path"] spCheck) (gC : mg "check_many" = some (.ref fC)) (kC : PySem.W.keepIn K (.ref fC) = true) (bC : Binds K fdC ["many", "path"] []) : FnOk P w K mg base CX0 2 f fd ["generator", "tables", "path"] spTri := by
  have GH : FnOk P w K mg base CX0 1 fH fdH ["condition", "value"] spHolds := ok_holds FH gH
  have bH : Binds K fdH ["condition", "value"] [] := FH.bindsN fun _ _ _ _ _ _ us hl => match us, hl with | [_, _], _ => rfl
  refine F.ok scTri (fun vs H Q E h => ?_) (fun cdv A outer s0 H vs Q E hr h => ?_)
  · obtain ⟨gv, g, tl, pth, rfl, _⟩ := h
    rfl
  · obtain ⟨gv, g, tl, pth, rfl, hg, hw, hk, q⟩ := h
    have nd := scTri.nd
    have three : 3 ≤ sizeLine := by decide
    refine ⟨_, PSs.nox (pss_cons (ps_set (i := 3) nd rfl (Or.inl rfl) (pe_ix ix_tup (pv 0) pe_int (fun _ _ => rfl)))
        (pss_cons (ps_if (pt_cmpR op_eq (pv 3) pe_str (nomark _)) (pss_cons (ps_set (i := 4) nd rfl (Or.inl rfl) (pe_op op_add (pe_op op_sub (pe_ix ix_tup (pv 0) pe_int (fun _ _ => rfl)) (pe_ix ix_tup (pv 0) pe_int (fun _ _ => rfl))) pe_int))
        (pss_cons (ps_expr (pe_call FC hr rfl gC kC bC .nil pass0 (pa_cons (pv 4) (pa_cons (pv 2) pa_nil))))
        (pss_one (ps_ret (pe_lc (own := [("k", 6)]) (g := gName 6) (tt := tYes) (by rfl) nd (pi_range1 rfl hrange (pa_cons (pv 4) pa_nil)) (blkOk_by (own := [("k", 6)]) (N := ["generator", "tables", "path", "name", "many", "found", "k", "triple"]) (sc := defScope sTriples) (by decide +kernel))
              (fun _ _ _ _ _ => pg_name (i := 6) nd rfl (Or.inl rfl)) (fun _ _ _ _ _ => pts_nil) (fun _ _ _ _ _ => pe_tup (pa_cons (pe_op op_add (pe_ix (r := rIxT K) ix_tup (pv 0) pe_int (fun _ _ => rfl)) (pv 6)) (pa_cons (pe_int) (pa_cons (pe_tup (pa_cons (pv 6) pa_nil)) pa_nil))))))))) pss_nil)
        (pss_cons (ps_if (pt_cmpR op_eq (pv 3) pe_str (nomark _)) pss_never pss_nil)
        (pss_cons (ps_if (pt_cmpR op_eq (pv 3) pe_str (nomark _)) pss_never pss_nil)
        (pss_cons (ps_if (pt_cmpR op_eq (pv 3) pe_str (nomark _)) pss_never pss_nil)
        (pss_cons (ps_if (pt_cmpR op_eq (pv 3) pe_str (nomark _)) pss_never pss_nil)
        (pss_cons (ps_if (pt_cmpR op_eq (pv 3) pe_str (nomark _)) (pss_one (ps_ret (pe_lc (own := [("triple", 7)]) (g := gName 7) (by rfl) nd (pi_list (pe_ix ix_list (pv 1) pe_int (fun _ _ => rfl))) (blkOk_by (own := [("triple", 7)]) (N := ["generator", "tables", "path", "name", "many", "found", "k", "triple"]) (sc := defScope sTriples) (by decide +kernel))
              (fun _ _ _ _ _ => pg_name (i := 7) nd rfl (Or.inl rfl)) (fun _ _ _ _ _ => pts_one (pt_val (pe_call GH hr rfl gH FH.kp bH .nil pass0 (pa_cons (pe_ix (r := rIxT K) ix_tup (pv 0) pe_int (fun _ _ => rfl)) (pa_cons (pe_ix (r := rIxT K) ix_tup (pv 7) pe_int (fun _ _ => rfl)) pa_nil))))) (fun _ _ _ _ _ => pv 7)))) pss_nil)
        (pss_cons (ps_never)
        (pss_cons (ps_never)
        (pss_cons (ps_never)
        (pss_one (ps_never)))))))))))), ?_⟩
    unfold GnAt at hg
    cases hkc : g.kc with
    | none =>
      rw [hkc] at hg
      obtain ⟨a, rfl, h1⟩ := hg
      refine ⟨_, rfl, _, _, _, _, rfl, rfl, SqT.of h1, at_0, _, rfl, rfl, _, rfl, ite_t (by decide +kernel) ?_⟩
      refine ⟨_, rfl, _, _, _, _, rfl, rfl, SqT.of h1, at_2, _, rfl, _, _, _, _, rfl, rfl, SqT.of h1, at_1, _, _, rfl, rfl, _, _, rfl, rfl, ?_⟩
      refine ⟨_, rfl, _, rfl, _, _, rfl, by have := hw.few; omega, ?_⟩
      have hfew := hw.few
      have hle := hw.le
      refine ⟨_, rfl, g.hi - g.lo + 1, rfl, by omega, by omega, fun D nD => ?_⟩
      refine lc_it walk_range (fun i H' => ∃ acc, H' D = some (.lst acc) ∧ Ext H H' ∧ Paired (TripAt H') acc (g.full.take i)) ⟨[], upd_same, Ext.of_new nD, .nil⟩ (fun _ _ _ _ => trivial) ?_ ?_
      · rintro i x H0 H1 hi ⟨acc, hD, e1, hacc⟩ ⟨rfl, rfl⟩
        have hl := paired_len hacc
        rw [List.length_take] at hl
        have hi2 : (i : Int) < g.hi - g.lo + 1 := by omega
        have hf := full_get g hi2
        refine ⟨rfl, _, rfl, _, _, _, _, rfl, rfl, SqT.of (e1.tup h1), at_1, _, rfl, _, _, rfl, rfl, _, rfl, by show 1 ≤ sizeLine; decide, fun b nb => ⟨three, fun p np => ?_⟩⟩
        have hD2 : (upd H1 b (.tup [.int (0 + (i : Int))])) D = some (.lst acc) := by rw [upd_ne (ne_of_none hD nb)]; exact hD
        have hD3 : (upd (upd H1 b (.tup [.int (0 + (i : Int))])) p (.tup [.int (g.lo + (0 + (i : Int))), .int 1, .ref b])) D = some (.lst acc) := by rw [upd_ne (ne_of_none hD2 np)]; exact hD2
        refine ⟨acc, hD3, len_lt (by omega), acc ++ [.ref p], upd_same, ((e1.new nb).new np).put nD (noext hD3 lst_ext), ?_⟩
        rw [take_more hf]
        refine paired_snoc (TripAt.stay (fun a xs e => tup_stay hD3 (((Ext.of_new nb).new np).tup e)) hacc) ⟨p, b, rfl, ?_, ?_⟩
        · refine tup_stay hD3 ?_
          rw [upd_same, Int.zero_add]
        · refine tup_stay hD3 ?_
          rw [upd_ne (ne_of_none upd_same np), upd_same, Int.zero_add]
          rfl
      · rintro H1 ⟨acc, hD, e1, hacc⟩
        have hfl := full_len g hw.le
        rw [List.take_of_length_le (by omega), ← tab_none hkc] at hacc
        exact q D acc H1 e1 hD hacc
    | some c =>
      rw [hkc] at hg
      obtain ⟨a, u, z, rfl, h1, _, hz⟩ := hg
      obtain ⟨t0, ys, ht, h0, hys⟩ := hk c hkc
      refine ⟨_, rfl, _, _, _, _, rfl, rfl, SqT.of h1, at_0, ?_⟩
      refine ⟨_, rfl, rfl, _, rfl, ite_f (by decide +kernel) ⟨_, rfl, rfl, _, rfl, ite_f (by decide +kernel) ⟨_, rfl, rfl, _, rfl, ite_f (by decide +kernel) ⟨_, rfl, rfl, _, rfl, ite_f (by decide +kernel) ⟨_, rfl, rfl, _, rfl, ite_f (by decide +kernel) ⟨_, rfl, rfl, _, rfl, ite_t (by decide +kernel) ?_⟩⟩⟩⟩⟩⟩
      refine ⟨_, rfl, _, _, _, _, rfl, rfl, SqL.of ht, at_0, t0, rfl, ⟨_, SqL.of h0⟩, fun D nD => ?_⟩
      have hkeep : ∀ x, g.keeps x = c.ok x := fun x => by unfold Gn.keeps; rw [hkc]
      have hfl := full_len g hw.le
      have hfew := hw.few
      refine lc_list (K := K) (a := t0) (xs := ys) (fun i H' => ∃ acc, H' D = some (.lst acc) ∧ Ext H H' ∧ Paired (TripAt H') acc ((g.full.take i).filter fun p => g.keeps p.1)) ⟨[], upd_same, Ext.of_new nD, .nil⟩ (fun i H' _ ⟨acc, _, e, _⟩ => SqL.of (e.lst h0)) ?_ ?_
      · rintro i x H1 hx ⟨acc, hD, e1, hacc⟩
        obtain ⟨t, htg, p, b, rfl, g1, g2⟩ := paired_get hys hx
        have hl := paired_len hacc
        have hl2 : ((g.full.take i).filter fun p => g.keeps p.1).length ≤ g.full.length := Nat.le_trans (List.length_filter_le _ _) (by rw [List.length_take]; omega)
        refine ⟨rfl, _, rfl, _, _, _, _, rfl, rfl, SqT.of (e1.tup h1), at_2, _, rfl, _, _, _, _, rfl, rfl, SqT.of (e1.tup g1), at_0, z, c, t.1, rfl, e1.cd hz, hw.cd c hkc, _, rfl, ?_⟩
        cases e : c.ok t.1 with
        | true =>
          refine iteT ⟨_, rfl, acc, hD, len_lt (by omega), acc ++ [.ref p], upd_same, e1.put nD (noext hD lst_ext), ?_⟩
          have e2 : (g.full.take (i + 1)).filter (fun p => g.keeps p.1) = (g.full.take i).filter (fun p => g.keeps p.1) ++ [t] := by
            rw [take_more htg, List.filter_append]
            simp [hkeep, e]
          rw [e2]
          exact paired_snoc (TripAt.stay (fun a xs e => tup_stay hD e) hacc) ⟨p, b, rfl, tup_stay hD (e1.tup g1), tup_stay hD (e1.tup g2)⟩
        | false =>
          refine iteF ⟨acc, hD, e1, ?_⟩
          have e2 : (g.full.take (i + 1)).filter (fun p => g.keeps p.1) = (g.full.take i).filter (fun p => g.keeps p.1) := by
            rw [take_more htg, List.filter_append]
            simp [hkeep, e]
          rw [e2]
          exact hacc
      · rintro H1 ⟨acc, hD, e1, hacc⟩
        rw [paired_len hys, List.take_length] at hacc
        exact q D acc H1 e1 hD hacc
/-! ### table_at -/
def spTabAt (W : Gn → Nat → Prop) : Sp := fun vs H Q _ => ∃ (gv : V) (g : Gn) (pa : Addr) (ps : List V), vs = [gv, .ref pa] ∧ GnAt H gv g ∧ Gn.wf g ∧ W g ps.length ∧ H pa = some (.tup ps) ∧ LamX.TabS H Tb.p lamQ ∧
  ∀ p xs H', Ext H H' → H' p = some (.lst xs) → Paired (TripAt H') xs g.tab → Q (.ref p) H'
theorem scTabAt : FnScope ["generator", "path", "parts", "tables", "found", "k"] ["generator", "path"] (defScope sTableAt) := ⟨rfl, rfl, rfl, by decide +kernel, rfl, by decide +kernel, by decide +kernel⟩
theorem full_kc (g : Gn) (k : Option Cd) : (⟨g.lo, g.hi, k⟩ : Gn).full = g.full := rfl
theorem ok_tab0 {f fP fT fU fC : Addr} {fd fdP fdT fdU fdC : FuncData} (F : FnP K "table_at" "table_at" sTableAt f fd) (hrange : mg "range" = none) (hlen : mg "len" = none)
    (FP : FnOk P w K mg base CX0 1 fP fdP ["generator"] spParts) (gP : mg "parts_of" = some (.ref fP)) (kP : PySem.W.keepIn K (.ref fP) = true) (bP : Binds K fdP ["generator"] [])
    (FT : FnOk P w K mg base CX0 2 fT fdT ["generator", "tables", "path"] spTri) (gT : mg "triples_of" = some (.ref fT)) (kT : PySem.W.keepIn K (.ref fT) = true) (bT : Binds K fdT ["generator", "tables", "path"] [])
    (FU : FnOk P w K mg base CX0 2 fU fdU ["triples"] spPut) (gU : mg "put_together" = some (.ref fU)) (kU : PySem.W.keepIn K (.ref fU) = true) (bU : Binds K fdU ["triples"] [])
    (FC : FnOk P w K mg base CX0 1 fC fdC ["many", "path"] spCheck) (gC : mg "check_many" = some (.ref fC)) (kC : PySem.W.keepIn K (.ref fC) = true) (bC : Binds K fdC ["many", "path"] []) :
    FnOk P w K mg base CX0 3 f fd ["generator", "path"] (spTabAt fun g _ => g.kc = none) := by
  refine F.ok scTabAt (fun vs H Q E h => ?_) (fun cdv A outer s0 H vs Q E hr h => ?_)
  · obtain ⟨gv, g, pa, ps, rfl, _⟩ := h
    rfl
  · obtain ⟨gv, g, pa, ps, rfl, hg, hw, hk, hpa, hT, q⟩ := h
    have nd := scTabAt.nd
    refine ⟨_, PSs.nox (pss_cons (ps_set (i := 2) nd rfl (Or.inr rfl) (pe_call FP (hr.mono (by decide)) rfl gP kP bP .nil pass0 (pa_cons (pv 0) pa_nil)))
        (pss_cons (ps_setLc (i := 3) (own := [("k", 5)]) (g := gName 5) (tt := tYes) rfl nd rfl rfl (sw_true rfl rfl rfl (by decide +kernel)) (pi_range1 rfl hrange (pa_cons (pe_callB call_len_seq (by rfl) hlen PySem.boot_len (pa_cons (pv 2) pa_nil)) pa_nil))
        (blkOk_by (own := [("k", 5)]) (N := ["generator", "path", "parts", "tables", "found", "k"]) (sc := defScope sTableAt) (by decide +kernel)) (fun _ _ _ _ _ => pg_name (i := 5) nd rfl (Or.inl rfl)) (fun _ _ _ _ _ => pts_nil) (fun _ _ _ _ _ => pe_neverE))
        (pss_cons (ps_set (i := 4) nd rfl (Or.inl rfl) (pe_call FU hr rfl gU kU bU .nil pass0 (pa_cons (pe_call FT hr rfl gT kT bT .nil pass0 (pa_cons (pv 0) (pa_cons (pv 3) (pa_cons (pv 1) pa_nil)))) pa_nil)))
        (pss_cons (ps_expr (pe_call FC (hr.mono (by decide)) rfl gC kC bC .nil pass0 (pa_cons (pe_callB call_len_seq (by rfl) hlen PySem.boot_len (pa_cons (pv 4) pa_nil)) (pa_cons (pv 1) pa_nil))))
        (pss_one (ps_ret (pv 4))))))), ?_⟩
    refine ⟨_, rfl, gv, g, rfl, hg, fun _ p1 H1 e1 hp1 => ?_, fun c _ _ _ e => by rw [hk] at e; cases e⟩
    refine ⟨_, rfl, p1, [], rfl, .inl (SqL.of hp1), 0, rfl, by omega, by omega, fun D nD => ?_⟩
    refine lc_it (n := 0) walk_range (fun i H' => H' = upd H1 D (.lst [])) rfl (fun _ _ _ _ => trivial) (fun i x H2 H3 hi => absurd hi (Nat.not_lt_zero _)) ?_
    rintro H2 rfl
    have e2 : Ext H (upd H1 D (.lst [])) := e1.new nD
    refine ⟨_, rfl, _, rfl, _, rfl, gv, g, D, _, rfl, e2.gn hg, hw, fun c e => (by rw [hk] at e; cases e), fun p3 xs3 H3 e3 hp3 hx3 => ?_⟩
    refine ⟨p3, xs3, g.tab, rfl, hp3, hx3, tab_len hw, tab_vals g, tab_rows g, (e2.trans e3).tabS hT, fun p4 xs4 H4 e4 hp4 hx4 => ?_⟩
    have hl := paired_len hx4
    have h3 := tab_len hw
    refine ⟨_, rfl, p4, xs4, rfl, .inl (SqL.of hp4), _, rfl, _, _, rfl, by omega, ?_⟩
    refine ⟨_, rfl, ?_⟩
    exact q p4 xs4 H4 ((e2.trans e3).trans e4) hp4 hx4
theorem ok_tab1 {f fP fT fU fC : Addr} {fd fdP fdT fdU fdC : FuncData} (F : FnP K "table_at" "table_at" sTableAt f fd) (hrange : mg "range" = none) (hlen : mg "len" = none)
    (FP : FnOk P w K mg base CX0 1 fP fdP ["generator"] spParts) (gP : mg "parts_of" = some (.ref fP)) (kP : PySem.W.keepIn K (.ref fP) = true) (bP : Binds K fdP ["generator"] [])
    (FT : FnOk P w K mg base CX0 2 fT fdT ["generator", "tables", "path"] spTri) (gT : mg "triples_of" = some (.ref fT)) (kT : PySem.W.keepIn K (.ref fT) = true) (bT : Binds K fdT ["generator", "tables", "path"] [])
    (FU : FnOk P w K mg base CX0 2 fU fdU ["triples"] spPut) (gU : mg "put_together" = some (.ref fU)) (kU : PySem.W.keepIn K (.ref fU) = true) (bU : Binds K fdU ["triples"] [])
    (FC : FnOk P w K mg base CX0 1 fC fdC ["many", "path"] spCheck) (gC : mg "check_many" = some (.ref fC)) (kC : PySem.W.keepIn K (.ref fC) = true) (bC : Binds K fdC ["many", "path"] [])
    (F0 : FnOk P w K mg base CX0 3 f fd ["generator", "path"] (spTabAt fun g _ => g.kc = none)) (g0 : mg "table_at" = some (.ref f)) (b0 : Binds K fd ["generator", "path"] []) :
    FnOk P w K mg base CX0 4 f fd ["generator", "path"] (spTabAt fun g n => g.kc ≠ none ∧ n ≤ 10) := by
  refine F.ok scTabAt (fun vs H Q E h => ?_) (fun cdv A outer s0 H vs Q E hr h => ?_)
  · obtain ⟨gv, g, pa, ps, rfl, _⟩ := h
    rfl
  · obtain ⟨gv, g, pa, ps, rfl, hg, hw, ⟨hk, hps⟩, hpa, hT, q⟩ := h
    have nd := scTabAt.nd
    refine ⟨_, PSs.nox (pss_cons (ps_set (i := 2) nd rfl (Or.inr rfl) (pe_call FP (hr.mono (by decide)) rfl gP kP bP .nil pass0 (pa_cons (pv 0) pa_nil)))
        (pss_cons (ps_setLc (i := 3) (own := [("k", 5)]) (g := gName 5) (tt := tYes) rfl nd rfl rfl (sw_true rfl rfl rfl (by decide +kernel)) (pi_range1 rfl hrange (pa_cons (pe_callB call_len_seq (by rfl) hlen PySem.boot_len (pa_cons (pv 2) pa_nil)) pa_nil))
        (blkOk_by (own := [("k", 5)]) (N := ["generator", "path", "parts", "tables", "found", "k"]) (sc := defScope sTableAt) (by decide +kernel)) (fun _ _ _ _ _ => pg_name (i := 5) nd rfl (Or.inl rfl)) (fun _ _ _ _ _ => pts_nil)
        (fun _ _ _ _ _ => pe_call F0 hr rfl g0 F.kp b0 .nil pass0 (pa_cons (pe_ix (r := rIxL K) ix_list (pv 2) (pv 5) (fun _ _ => rfl)) (pa_cons (pe_op (r := rCatA K) op_catA (pv 1) (pe_tup (pa_cons (pv 5) pa_nil))) pa_nil))))
        (pss_cons (ps_set (i := 4) nd rfl (Or.inl rfl) (pe_call FU (hr.mono (by decide)) rfl gU kU bU .nil pass0 (pa_cons (pe_call FT (hr.mono (by decide)) rfl gT kT bT .nil pass0 (pa_cons (pv 0) (pa_cons (pv 3) (pa_cons (pv 1) pa_nil)))) pa_nil)))
        (pss_cons (ps_expr (pe_call FC (hr.mono (by decide)) rfl gC kC bC .nil pass0 (pa_cons (pe_callB call_len_seq (by rfl) hlen PySem.boot_len (pa_cons (pv 4) pa_nil)) (pa_cons (pv 1) pa_nil))))
        (pss_one (ps_ret (pv 4))))))), ?_⟩
    cases hkc : g.kc with
    | none => exact absurd hkc hk
    | some c =>
    have hg0 := hg
    unfold GnAt at hg
    rw [hkc] at hg
    obtain ⟨a, u, z, rfl, h1, hgu, hz⟩ := hg
    refine ⟨_, rfl, .ref a, g, rfl, hg0, (fun e => by rw [hkc] at e; cases e), fun c' a' u' z' _ e e2 p1 H1 e1 hp1 => ?_⟩
    have e := (V.ref.inj e).symm
    subst e
    have e3 := Option.some.inj (h1.symm.trans e2)
    injection e3 with e3
    injection e3 with _ e3
    injection e3 with e3 _
    subst e3
    refine ⟨_, rfl, p1, [u], rfl, .inl (SqL.of hp1), 1, rfl, by omega, by omega, fun D nD => ?_⟩
    have hg1 : GnAt H u ⟨g.lo, g.hi, none⟩ := hgu
    have hw1 : Gn.wf ⟨g.lo, g.hi, none⟩ := ⟨hw.le, hw.few, hw.sm, fun c z => by cases z⟩
    refine lc_it (n := 1) walk_range (fun i H' => (i = 0 ∧ H' = upd H1 D (.lst [])) ∨ (i = 1 ∧ ∃ t0 ys, Ext H1 H' ∧ H' D = some (.lst [.ref t0]) ∧ H' t0 = some (.lst ys) ∧ Paired (TripAt H') ys g.full)) (.inl ⟨rfl, rfl⟩) (fun _ _ _ _ => trivial) ?_ ?_
    · rintro i x H0 H2 hi hP ⟨rfl, rfl⟩
      obtain rfl : i = 0 := by omega
      obtain ⟨_, rfl⟩ | ⟨h, _⟩ := hP
      case inr => exact absurd h (by decide)
      have e2 : Ext H1 (upd H1 D (.lst [])) := Ext.of_new nD
      refine ⟨rfl, _, rfl, _, rfl, _, _, _, _, rfl, rfl, SqL.of (e2.lst hp1), at_0, _, rfl, _, rfl, by show 1 ≤ sizeLine; decide, fun b nb => ?_⟩
      have eb : Ext H1 (upd (upd H1 D (.lst [])) b (.tup [.int (0 + ((0 : Nat) : Int))])) := e2.new nb
      have hDb : (upd (upd H1 D (.lst [])) b (.tup [.int (0 + ((0 : Nat) : Int))])) D = some (.lst []) := by rw [upd_ne (ne_of_none upd_same nb), upd_same]
      have fin : ∀ (pb : Addr) (pbs : List V) (H3 : Hp), Ext (upd (upd H1 D (.lst [])) b (.tup [.int (0 + ((0 : Nat) : Int))])) H3 → H3 pb = some (.tup pbs) → spTabAt (fun g _ => g.kc = none) [u, .ref pb] H3 (fun y H4 => ∃ acc, H4 D = some (.lst acc) ∧ acc.length < sizeLine ∧ ((0 + 1 = 0 ∧ upd H4 D (.lst (acc ++ [y])) = upd H1 D (.lst [])) ∨ (0 + 1 = 1 ∧ ∃ t0 ys, Ext H1 (upd H4 D (.lst (acc ++ [y]))) ∧ (upd H4 D (.lst (acc ++ [y]))) D = some (.lst [.ref t0]) ∧ (upd H4 D (.lst (acc ++ [y]))) t0 = some (.lst ys) ∧ Paired (TripAt (upd H4 D (.lst (acc ++ [y])))) ys g.full))) E0 := by
        intro pb pbs H3 e3 hpb
        refine ⟨u, _, pb, pbs, rfl, ((e1.trans eb).trans e3).gn hg1, hw1, rfl, hpb, ((e1.trans eb).trans e3).tabS hT, fun t0 ys H4 e4 ht0 hys => ?_⟩
        have hD4 : H4 D = some (.lst []) := (e3.trans e4).lst hDb
        have ne : t0 ≠ D := fun z => by
          rw [z, hD4] at ht0
          have e0 : ys = [] := by injection Option.some.inj ht0 with e; exact e.symm
          have hl := paired_len hys
          rw [e0, tab_none rfl] at hl
          have := full_len g hw.le
          have := hw.le
          have hl : 0 = g.full.length := hl
          omega
        refine ⟨[], hD4, by decide, .inr ⟨rfl, t0, ys, ((eb.trans e3).trans e4).put nD (noext hD4 lst_ext), upd_same, by rw [upd_ne ne]; exact ht0, ?_⟩⟩
        rw [tab_none rfl] at hys
        exact TripAt.stay (fun a xs e => tup_stay hD4 e) hys
      refine ⟨pa, b, ps, _, rfl, rfl, SqT.of ((e1.trans eb).tup hpa), SqT.of upd_same, by show ps.length + 1 ≤ _; exact Nat.le_trans (by omega : ps.length + 1 ≤ 11) (by decide), fun h0 => ?_, fun _ h0 => (by cases h0), fun _ _ p np => ?_⟩
      · exact fin b _ _ (Ext.refl _) upd_same
      · exact fin p _ _ (Ext.of_new np) upd_same
    · rintro H2 (⟨h, _⟩ | ⟨_, t0, ys, e2, hD, ht0, hys⟩)
      · exact absurd h (by decide)
      have eH := e1.trans e2
      refine ⟨_, rfl, _, rfl, _, rfl, .ref a', g, D, _, rfl, eH.gn hg0, hw, (fun c' _ => ⟨t0, ys, hD, ht0, hys⟩), fun p3 xs3 H3 e3 hp3 hx3 => ?_⟩
      refine ⟨p3, xs3, g.tab, rfl, hp3, hx3, tab_len hw, tab_vals g, tab_rows g, (eH.trans e3).tabS hT, fun p4 xs4 H4 e4 hp4 hx4 => ?_⟩
      have hl := paired_len hx4
      have h3 := tab_len hw
      refine ⟨_, rfl, p4, xs4, rfl, .inl (SqL.of hp4), _, rfl, _, _, rfl, by omega, ?_⟩
      refine ⟨_, rfl, ?_⟩
      exact q p4 xs4 H4 ((eH.trans e3).trans e4) hp4 hx4
theorem ok_tab {f : Addr} {fd : FuncData} (F0 : FnOk P w K mg base CX0 3 f fd ["generator", "path"] (spTabAt fun g _ => g.kc = none)) (F1 : FnOk P w K mg base CX0 4 f fd ["generator", "path"] (spTabAt fun g n => g.kc ≠ none ∧ n ≤ 10)) :
    FnOk P w K mg base CX0 4 f fd ["generator", "path"] (spTabAt fun _ n => n ≤ 10) := by
  refine ⟨fun vs H Q E h => ?_, fun A outer s H args us vs Q E hr he hb hv hs => ?_⟩
  · obtain ⟨gv, g, pa, ps, rfl, _⟩ := h
    rfl
  · obtain ⟨gv, g, pa, ps, e, hg, hw, hn, hpa, hT, q⟩ := hs
    by_cases hk : g.kc = none
    · exact (F0.mono (by decide)).run A outer s H args us vs Q E hr he hb hv ⟨gv, g, pa, ps, e, hg, hw, hk, hpa, hT, q⟩
    · exact F1.run A outer s H args us vs Q E hr he hb hv ⟨gv, g, pa, ps, e, hg, hw, ⟨hk, hn⟩, hpa, hT, q⟩
/-! ### table -/
def spTable : Sp := fun vs H Q _ => ∃ (gv : V) (g : Gn), vs = [gv] ∧ GnAt H gv g ∧ Gn.wf g ∧ LamX.TabS H Tb.p lamQ ∧
  ∀ p xs H', Ext H H' → H' p = some (.lst xs) → Paired (TripAt H') xs g.tab → Q (.ref p) H'
theorem scTable : FnScope ["generator"] ["generator"] (defScope sTable) := ⟨rfl, rfl, rfl, by decide +kernel, rfl, by decide +kernel, by decide +kernel⟩
theorem ok_table {f fT : Addr} {fd fdT : FuncData} (F : FnP K "table" "table" sTable f fd) (FT : FnOk P w K mg base CX0 4 fT fdT ["generator", "path"] (spTabAt fun _ n => n ≤ 10)) (gT : mg "table_at" = some (.ref fT)) (kT : PySem.W.keepIn K (.ref fT) = true) (bT : Binds K fdT ["generator", "path"] []) :
    FnOk P w K mg base CX0 5 f fd ["generator"] spTable := by
  refine F.ok scTable (fun vs H Q E h => ?_) (fun cdv A outer s0 H vs Q E hr h => ?_)
  · obtain ⟨gv, g, rfl, _⟩ := h
    rfl
  · obtain ⟨gv, g, rfl, hg, hw, hT, q⟩ := h
    refine ⟨_, PSs.nox (pss_one (ps_ret (pe_call FT hr rfl gT kT bT .nil pass0 (pa_cons (pv 0) (pa_cons (pe_tup pa_nil) pa_nil))))), ?_⟩
    refine ⟨_, rfl, by show 0 ≤ sizeLine; decide, fun pa np => ?_⟩
    have e := Ext.of_new (o := .tup []) np
    exact ⟨gv, g, pa, [], rfl, e.gn hg, hw, Nat.zero_le _, upd_same, e.tabS hT, fun p xs H' e' hp hx => q p xs H' (e.trans e') hp hx⟩
end
end Cr
set_option Elab.async false
set_option linter.all false
set_option maxRecDepth 100000
set_option maxHeartbeats 4000000
/-! Choicerows: is_less, steps_from, further. -/
namespace Cr
open PySem PySem.Spec PyProof.Rows L2 CRM
/-! ### rows -/
theorem LenRow.of {K : PySem.W.Frag} {H : Hp} {p a : Addr} {r : List Int} (h1 : H p = some (.tup [.int ((r.map V.int).length : Int), .ref a])) (h2 : RowAt H a r) : LenRow K H (.ref p) r :=
  ⟨p, a, rfl, SqT.of (by rw [List.length_map] at h1; exact h1), SqT.of h2⟩
section
variable [Tb]
theorem cat_rows {K : PySem.W.Frag} {H : Hp} {a b : Addr} {x y : List Int} {Q : VK} (ha : RowAt H a x) (hb : RowAt H b y) (hz : x.length + y.length ≤ 100000) (q : ∀ p H', Ext H H' → RowAt H' p (x ++ y) → Q (.ref p) H') : rCatA K (.ref a) (.ref b) H Q := by
  refine ⟨a, b, _, _, rfl, rfl, SqT.of ha, SqT.of hb, ?_, fun hx => ?_, fun hx hy => ?_, fun hx hy p np => ?_⟩
  · rw [List.length_map, List.length_map]
    exact Nat.le_trans hz (by decide)
  · refine q b H (Ext.refl H) ?_
    rw [List.map_eq_nil_iff.mp hx]
    exact hb
  · refine q a H (Ext.refl H) ?_
    rw [List.map_eq_nil_iff.mp hy, List.append_nil]
    exact ha
  · refine q p _ (Ext.of_new np) ?_
    show upd H p _ p = _
    rw [upd_same, List.map_append]
end
/-! ### layers as dicts -/
def LayAt (H : Hp) (kv : Key × V) (p : Int × List Int) : Prop := kv.1 = .inl p.1 ∧ ∃ a, kv.2 = .ref a ∧ RowAt H a p.2
def StepAt (H : Hp) (v : V) (p : Int × List Int) : Prop := ∃ q a, v = .ref q ∧ H q = some (.tup [.int p.1, .ref a]) ∧ RowAt H a p.2
theorem LayAt.stay {H H' : Hp} (k : ∀ a xs, H a = some (.tup xs) → H' a = some (.tup xs)) {vs : List (Key × V)} {ts : Lay} (h : Paired (LayAt H) vs ts) : Paired (LayAt H') vs ts :=
  L2.Paired.mapP h fun _ _ ⟨h0, a, h1, h2⟩ => ⟨h0, a, h1, k _ _ h2⟩
theorem StepAt.stay {H H' : Hp} (k : ∀ a xs, H a = some (.tup xs) → H' a = some (.tup xs)) {vs : List V} {ts : Lay} (h : Paired (StepAt H) vs ts) : Paired (StepAt H') vs ts :=
  L2.Paired.mapP h fun _ _ ⟨q, a, h1, h2, h3⟩ => ⟨q, a, h1, k _ _ h2, k _ _ h3⟩
theorem lay_none {H : Hp} {s : Int} : ∀ {kvs : List (Key × V)} {L : Lay}, Paired (LayAt H) kvs L → getS L s = none → valV kvs (Sum.inl s : Key) = none
  | _, _, .nil, _ => rfl
  | kv :: kvs, p :: L, .cons h t, e => by
    rw [getS_cons] at e
    by_cases c : p.1 = s
    · rw [if_pos c] at e; cases e
    · rw [if_neg c] at e
      have ih := lay_none t e
      unfold valV at ih ⊢
      rw [List.find?_cons_of_neg]
      · exact ih
      · rw [h.1]
        simp only [decide_eq_true_eq]
        exact fun z => c (Sum.inl.inj z)
theorem lay_some {H : Hp} {s : Int} {r : List Int} : ∀ {kvs : List (Key × V)} {L : Lay}, Paired (LayAt H) kvs L → getS L s = some r → ∃ a, valV kvs (Sum.inl s : Key) = some (.ref a) ∧ RowAt H a r
  | _, _, .nil, e => by cases e
  | kv :: kvs, p :: L, .cons h t, e => by
    rw [getS_cons] at e
    by_cases c : p.1 = s
    · rw [if_pos c] at e
      obtain ⟨a, h1, h2⟩ := h.2
      have e := Option.some.inj e
      refine ⟨a, ?_, by rw [← e]; exact h2⟩
      unfold valV
      rw [List.find?_cons_of_pos]
      · rw [← h1]; rfl
      · rw [h.1, c]
        simp
    · rw [if_neg c] at e
      obtain ⟨a, h1, h2⟩ := lay_some t e
      refine ⟨a, ?_, h2⟩
      unfold valV at h1 ⊢
      rw [List.find?_cons_of_neg]
      · exact h1
      · rw [h.1]
        simp only [decide_eq_true_eq]
        exact fun z => c (Sum.inl.inj z)
theorem lay_any {H : Hp} {s : Int} : ∀ {kvs : List (Key × V)} {L : Lay}, Paired (LayAt H) kvs L → (kvs.any fun kv => decide (kv.1 = (Sum.inl s : Key))) = L.any fun p => decide (p.1 = s)
  | _, _, .nil => rfl
  | kv :: kvs, p :: L, .cons h t => by
    rw [List.any_cons, List.any_cons, lay_any t, h.1]
    congr 1
    exact decide_eq_decide.mpr ⟨Sum.inl.inj, fun z => by rw [z]⟩
theorem lay_map {H : Hp} {s : Int} {r : List Int} {a : Addr} (ha : RowAt H a r) : ∀ {kvs : List (Key × V)} {L : Lay}, Paired (LayAt H) kvs L →
    Paired (LayAt H) (kvs.map fun kv => if kv.1 = (Sum.inl s : Key) then (kv.1, .ref a) else kv) (L.map fun p => if p.1 = s then (p.1, r) else p)
  | _, _, .nil => .nil
  | kv :: kvs, p :: L, .cons h t => by
    rw [List.map_cons, List.map_cons]
    refine .cons ?_ (lay_map ha t)
    by_cases c : p.1 = s
    · rw [if_pos c, if_pos (by rw [h.1, c])]
      exact ⟨h.1, a, rfl, ha⟩
    · rw [if_neg c, if_neg (by rw [h.1]; exact fun z => c (Sum.inl.inj z))]
      exact h
theorem lay_put {H : Hp} {s : Int} {r : List Int} {a : Addr} (ha : RowAt H a r) {kvs : List (Key × V)} {L : Lay} (h : Paired (LayAt H) kvs L) : Paired (LayAt H) (putK kvs (Sum.inl s : Key) (.ref a)) (putS L s r) := by
  unfold putK putS
  rw [lay_any h]
  by_cases c : (L.any fun p => decide (p.1 = s)) = true
  · rw [if_pos c, if_pos c]
    exact lay_map ha h
  · rw [if_neg c, if_neg c]
    exact paired_snoc h ⟨rfl, a, rfl, ha⟩
theorem putS_len (L : Lay) (s : Int) (r : List Int) : (putS L s r).length ≤ L.length + 1 := by
  unfold putS
  split
  · rw [List.length_map]; omega
  · rw [List.length_append]; simp
/-- the tables of a machine's commands by their names -/
def TabsAt (H : Hp) (dt : Addr) (m : Mc) : Prop := ∃ kvs, H dt = some (.dK kvs) ∧ ∀ c ∈ m.cs, ∃ l xs, valV kvs (Sum.inr (nmS c.nm) : Key) = some (.ref l) ∧ H l = some (.lst xs) ∧ Paired (TripAt H) xs c.gn.tab
section
variable [Tb]
theorem Ext.lay {H H' : Hp} (e : Ext H H') {vs : List (Key × V)} {ts : Lay} (h : Paired (LayAt H) vs ts) : Paired (LayAt H') vs ts := LayAt.stay (fun _ _ => e.tup) h
theorem Ext.steps {H H' : Hp} (e : Ext H H') {vs : List V} {ts : Lay} (h : Paired (StepAt H) vs ts) : Paired (StepAt H') vs ts := StepAt.stay (fun _ _ => e.tup) h
theorem Ext.trips {H H' : Hp} (e : Ext H H') {vs : List V} {ts : List (Int × List Int)} (h : Paired (TripAt H) vs ts) : Paired (TripAt H') vs ts := TripAt.stay (fun _ _ => e.tup) h
theorem Ext.tabs {H H' : Hp} (e : Ext H H') {dt : Addr} {m : Mc} (h : TabsAt H dt m) : TabsAt H' dt m := by
  obtain ⟨kvs, h1, h2⟩ := h
  refine ⟨kvs, e.dK h1, fun c hc => ?_⟩
  obtain ⟨l, xs, a, b, d⟩ := h2 c hc
  exact ⟨l, xs, a, e.lst b, e.trips d⟩
end
section
variable [Tb] {P : Program} {w : World} {K : PySem.W.Frag} {mg : Str → Option Value} {base : Heap}
/-! ### is_less -/
def spIsLess : Sp := fun vs H Q _ => ∃ (a b : Addr) (x y : List Int), vs = [.ref a, .ref b] ∧ RowAt H a x ∧ RowAt H b y ∧ ∀ H', Ext H H' → Q (.bl (less x y)) H'
theorem scIsLess : FnScope ["row", "other"] ["row", "other"] (defScope sIsLess) := ⟨rfl, rfl, rfl, by decide +kernel, rfl, by decide +kernel, by decide +kernel⟩
theorem units8 {k : Nat} {A : Around} (hr : Room k A) : A.units + 8 < cLine := by have := hr.un; omega
theorem ok_is_less {f : Addr} {fd : FuncData} (F : FnP K "is_less" "is_less" sIsLess f fd) (hlen : mg "len" = none) : FnOk P w K mg base CX0 1 f fd ["row", "other"] spIsLess := by
  refine F.ok scIsLess (fun vs H Q E h => ?_) (fun cdv A outer s0 H vs Q E hr h => ?_)
  · obtain ⟨a, b, x, y, rfl, _⟩ := h
    rfl
  · obtain ⟨a, b, x, y, rfl, ha, hb, q⟩ := h
    have two : 2 ≤ sizeLine := by decide
    refine ⟨_, PSs.nox (pss_one (ps_ret (pe_cmpR (op_ltRow (units8 hr)) (pe_tup (pa_cons (pe_callB call_len_seq (by rfl) hlen PySem.boot_len (pa_cons (pv 0) pa_nil)) (pa_cons (pv 0) pa_nil))) (pe_tup (pa_cons (pe_callB call_len_seq (by rfl) hlen PySem.boot_len (pa_cons (pv 1) pa_nil)) (pa_cons (pv 1) pa_nil))) (nomark _)))), ?_⟩
    refine ⟨_, rfl, a, _, rfl, .inr (SqT.of ha), _, rfl, two, fun p np => ?_⟩
    have e1 : Ext H (upd H p (.tup [.int ((x.map V.int).length : Int), .ref a])) := Ext.of_new np
    refine ⟨_, rfl, b, _, rfl, .inr (SqT.of (e1.tup hb)), _, rfl, two, fun p2 np2 => ?_⟩
    have e2 := Ext.of_new (H := upd H p (.tup [.int ((x.map V.int).length : Int), .ref a])) (o := .tup [.int ((y.map V.int).length : Int), .ref b]) np2
    exact ⟨x, y, LenRow.of (e2.tup upd_same) (e2.tup (e1.tup ha)), LenRow.of upd_same (e2.tup (e1.tup hb)), q _ (e1.trans e2)⟩
/-! ### steps_from -/
def spSteps : Sp := fun vs H Q _ => ∃ (mv : V) (m : Mc) (dt dr ra : Addr) (kvs : List (Key × V)) (s : Int) (r : List Int), vs = [mv, .ref dt, .ref dr, .int s] ∧ McAt H mv m ∧ Mc.wf m ∧ TabsAt H dt m ∧ Rd H dr (.dK kvs) ∧ valV kvs (Sum.inl s : Key) = some (.ref ra) ∧ RowAt H ra r ∧ r.length ≤ 1000 ∧
  ∀ p xs H', Ext H H' → H' p = some (.lst xs) → Paired (StepAt H') xs (stepsFrom m.cs r s) → Q (.ref p) H'
theorem scSteps : FnScope ["some_machine", "tables", "rows", "state", "commands", "found", "k", "argument", "_", "end"] ["some_machine", "tables", "rows", "state"] (defScope sStepsFrom) := ⟨rfl, rfl, rfl, by decide +kernel, rfl, by decide +kernel, by decide +kernel⟩
/-- what the k-th allowed command gives -/
def stepsK (cs : List Cm) (r : List Int) (s : Int) (k : Nat) : Lay := match (allowed cs s)[k]? with
  | none => []
  | some c => c.gn.tab.map fun p => (c.ef.app s p.1, r ++ [1, (k : Int)] ++ p.2)
theorem stepsFrom_eq (cs : List Cm) (r : List Int) (s : Int) : stepsFrom cs r s = (List.range (allowed cs s).length).flatMap (stepsK cs r s) := rfl
theorem dget_rd {H : Hp} {a : Addr} {kvs : List (Key × V)} {k : Key} (e : Rd H a (.dK kvs)) : DGet H a (kV k) (valV kvs k) := .inl ⟨kvs, k, e, rfl, rfl⟩
theorem tab_row_len {g : Gn} {p : Int × List Int} (h : p ∈ g.tab) : p.2.length = 1 := by
  obtain ⟨d, e, _⟩ := mem_tab.mp (show (p.1, p.2) ∈ g.tab from h)
  rw [e]; rfl
theorem stepsK_len {cs : List Cm} {r : List Int} {s : Int} {k : Nat} (hw : ∀ c ∈ cs, Cm.wf c) : (stepsK cs r s k).length ≤ 3 := by
  unfold stepsK
  cases e : (allowed cs s)[k]? with
  | none => simp
  | some c =>
    show (c.gn.tab.map _).length ≤ 3
    rw [List.length_map]
    exact tab_len (hw c (List.mem_filter.mp (List.mem_of_getElem? e)).1).gn
theorem flat_len {α β : Type} {f : α → List β} {n : Nat} (h : ∀ a, (f a).length ≤ n) : ∀ l : List α, (l.flatMap f).length ≤ n * l.length
  | [] => by simp
  | a :: l => by
    rw [List.flatMap_cons, List.length_append, List.length_cons]
    have := h a
    have := flat_len h l
    rw [Nat.mul_add]
    omega
theorem ok_steps {f fA fB : Addr} {fd fdA fdB : FuncData} (F : FnP K "steps_from" "steps_from" sStepsFrom f fd) (hrange : mg "range" = none) (hlen : mg "len" = none)
    (FA : FnOk P w K mg base CX0 2 fA fdA ["some_machine", "state"] spAllowed) (gA : mg "allowed" = some (.ref fA)) (kA : PySem.W.keepIn K (.ref fA) = true) (bA : Binds K fdA ["some_machine", "state"] [])
    (FB : FnOk P w K mg base CX0 1 fB fdB ["command", "state", "argument"] spBehind) (gB : mg "behind_machines" = some (.ref fB)) (kB : PySem.W.keepIn K (.ref fB) = true) (bB : Binds K fdB ["command", "state", "argument"] []) :
    FnOk P w K mg base CX0 3 f fd ["some_machine", "tables", "rows", "state"] spSteps := by
  refine F.ok scSteps (fun vs H Q E h => ?_) (fun cdv A outer s0 H vs Q E hr h => ?_)
  · obtain ⟨mv, m, dt, dr, ra, kvs, s, r, rfl, _⟩ := h
    rfl
  · obtain ⟨mv, m, dt, dr, ra, kvs, s, r, rfl, hm, hw, htab, hrd, hval, hra, hrl, q⟩ := h
    have hu := hu_of hr
    have nd := scSteps.nd
    have two : 2 ≤ sizeLine := by decide
    refine ⟨_, PSs.nox (pss_cons (ps_set (i := 4) nd rfl (Or.inl rfl) (pe_call FA hr rfl gA kA bA .nil pass0 (pa_cons (pv 0) (pa_cons (pv 3) pa_nil))))
        (pss_cons (ps_set (i := 5) nd rfl (Or.inl rfl) (pe_lst pa_nil))
        (pss_cons (ps_for PassesOwn.never rfl (pi_range1 rfl hrange (pa_cons (pe_callB call_len_seq (by rfl) hlen PySem.boot_len (pa_cons (pv 4) pa_nil)) pa_nil)) (pg_name (i := 6) nd rfl (Or.inl rfl))
        (pss_one (ps_for PassesOwn.never rfl (pi_list (pe_dget hu (pv 1) (pe_ix ix_tup (pe_ix ix_list (pv 4) (pv 6) (fun _ _ => rfl)) pe_int (fun _ _ => rfl)) (fun _ _ => rfl))) (pg_tup rfl (pgs_cons (pg_name (i := 7) nd rfl (Or.inl rfl)) (pgs_cons (pg_name (i := 8) nd rfl (Or.inl rfl)) (pgs_cons (pg_name (i := 9) nd rfl (Or.inl rfl)) pgs_nil))))
          (pss_one (ps_expr (pe_bm PySem.F.plainAttrs_list PySem.F.slot_list_append PySem.F.type_list_append mt_append (pv 5) (pa_cons (pe_tup (pa_cons (pe_call FB (hr.mono (by decide)) rfl gB kB bB .nil pass0 (pa_cons (pe_ix (r := rIxL K) ix_list (pv 4) (pv 6) (fun _ _ => rfl)) (pa_cons (pv 3) (pa_cons (pv 7) pa_nil)))) (pa_cons (pe_op op_catA (pe_op op_catA (pe_dget hu (pv 2) (pv 3) (fun _ _ => rfl)) (pe_tup (pa_cons (pe_int) (pa_cons (pv 6) pa_nil)))) (pv 9)) pa_nil))) pa_nil)))))))
        (pss_one (ps_ret (pv 5)))))), ?_⟩
    refine ⟨_, rfl, _, rfl, mv, m, s, rfl, hm, hw, fun cp us H1 e1 hcp hus => ⟨by show 0 ≤ sizeLine; decide, fun fl nfl => ?_⟩⟩
    have nflH : H fl = none := e1.dom fl nfl
    have e2 : Ext H1 (upd H1 fl (.lst [])) := Ext.of_new nfl
    have hal : us.length ≤ 4 := by
      have h1 := paired_len hus
      have h2 : (allowed m.cs s).length ≤ m.cs.length := List.length_filter_le _ _
      have := hw.few
      omega
    refine ⟨_, rfl, cp, us, rfl, .inl (SqL.of (e2.lst hcp)), (us.length : Int), rfl, by omega, by omega, ?_⟩
    refine for_range (lo := 0) (n := us.length) (fun k σ H' => ∃ acc u6 u7 u8 u9, σ = [some mv, some (.ref dt), some (.ref dr), some (.int s), some (.ref cp), some (.ref fl), u6, u7, u8, u9] ∧ Ext H1 H' ∧ H' fl = some (.lst acc) ∧ Paired (StepAt H') acc ((List.range k).flatMap (stepsK m.cs r s)) ∧ k ≤ 4) ?_ ?_ ?_
    · exact ⟨[], none, none, none, none, rfl, e2, upd_same, .nil, Nat.zero_le _⟩
    · rintro k σ H2 hk ⟨acc, u6, u7, u8, u9, rfl, e3, hfl3, hacc, hk4⟩
      obtain ⟨cv, hcv⟩ : ∃ cv, us[k]? = some cv := ⟨_, List.getElem?_eq_getElem hk⟩
      obtain ⟨c, hc, hcm⟩ := paired_get hus hcv
      have hmem : c ∈ m.cs := (List.mem_filter.mp (List.mem_of_getElem? hc)).1
      obtain ⟨ca, gu, ge, rfl, h1, _, _⟩ := id hcm
      obtain ⟨tkv, htk, htabs⟩ := htab
      obtain ⟨l, xs, hvl, hl, hxs⟩ := htabs c hmem
      have ntf : l ≠ fl := ne_of_none hl nflH
      have hsk : stepsK m.cs r s k = c.gn.tab.map fun p => (c.ef.app s p.1, r ++ [1, (k : Int)] ++ p.2) := by unfold stepsK; rw [hc]
      refine ⟨_, rfl, _, rfl, _, rfl, _, _, _, _, rfl, rfl, SqL.of (e3.lst hcp), at_int (by omega) (by rw [show ((0 : Int) + (k : Int)).toNat = k by omega]; exact hcv), _, _, _, _, rfl, rfl, SqT.of (e3.tup h1), at_0, dt, _, rfl, by rw [← hvl]; exact DGet.k (k := Sum.inr (nmS c.nm)) (e3.dK (e1.dK htk)), l, rfl, ⟨_, SqL.of (e3.lst (e1.lst hl))⟩, ?_⟩
      have hl0 := (flat_len (f := stepsK m.cs r s) (fun k => stepsK_len hw.cs) (List.range k))
      rw [List.length_range] at hl0
      refine for_list (K := K) (a := l) (xs := xs) (fun i σ H' => ∃ acc u7 u8 u9, σ = [some mv, some (.ref dt), some (.ref dr), some (.int s), some (.ref cp), some (.ref fl), some (.int (0 + (k : Int))), u7, u8, u9] ∧ Ext H1 H' ∧ H' fl = some (.lst acc) ∧
          Paired (StepAt H') acc ((List.range k).flatMap (stepsK m.cs r s) ++ (stepsK m.cs r s k).take i)) ?_ ?_ ?_ ?_
      · exact ⟨acc, u7, u8, u9, rfl, e3, hfl3, by rw [List.take_zero, List.append_nil]; exact hacc⟩
      · rintro i σ H3 _ ⟨acc, u7, u8, u9, rfl, e4, _⟩
        exact SqL.of (e4.lst (e1.lst hl))
      · rintro i x σ H3 hx ⟨acc, u7, u8, u9, rfl, e4, hfl4, hacc4⟩
        have eH := e1.trans e4
        obtain ⟨t, htg, p, b, rfl, g1, g2⟩ := paired_get hxs hx
        have htl : t.2.length = 1 := tab_row_len (List.mem_of_getElem? htg)
        refine ⟨p, _, rfl, SqT.of (eH.tup g1), rfl, _, _, rfl, _, _, rfl, _, _, rfl, rfl, ?_⟩
        refine ⟨_, rfl, .inl ⟨rfl, _, SqL.of hfl4⟩, _, rfl, _, rfl, _, _, _, _, rfl, rfl, SqL.of (e4.lst hcp), at_int (by omega) (by rw [show ((0 : Int) + (k : Int)).toNat = k by omega]; exact hcv), _, rfl, _, rfl, .ref ca, c, s, t.1, rfl, e4.cm hcm, ?_⟩
        refine ⟨_, rfl, _, rfl, dr, .ref ra, rfl, by rw [← hval]; exact dget_rd (k := Sum.inl s) (eH.rd hrd nt_dK), _, rfl, two, fun t1 nt1 => ?_⟩
        have e5 : Ext H3 (upd H3 t1 (.tup [.int 1, .int (0 + (k : Int))])) := Ext.of_new nt1
        have h1k : RowAt (upd H3 t1 (.tup [.int 1, .int (0 + (k : Int))])) t1 [1, (k : Int)] := by
          show upd H3 t1 _ t1 = _
          rw [upd_same, Int.zero_add]
          rfl
        refine cat_rows ((eH.trans e5).tup hra) h1k (by simp; omega) fun t2 H5 e6 ht2 => ?_
        refine ⟨_, rfl, cat_rows ht2 (((eH.trans e5).trans e6).tup g2) (by simp; omega) fun t3 H6 e7 ht3 => ?_⟩
        refine ⟨two, fun t4 nt4 => ?_⟩
        have e8 := (((e5.trans e6).trans e7).new (o := .tup [.int (c.ef.app s t.1), .ref t3]) nt4)
        have hfl6 := e8.lst hfl4
        have hlen := paired_len hacc4
        have hsl := stepsK_len (r := r) (s := s) (k := k) hw.cs
        have hx' : (stepsK m.cs r s k)[i]? = some (c.ef.app s t.1, r ++ [1, (k : Int)] ++ t.2) := by rw [hsk, List.getElem?_map, htg]; rfl
        refine ⟨fl, acc, _, rfl, rfl, hfl6, len_lt (by rw [hlen, List.length_append, List.length_take]; omega), ?_⟩
        have e9 : Ext H1 (upd (upd H6 t4 (.tup [.int (c.ef.app s t.1), .ref t3])) fl (.lst (acc ++ [.ref t4]))) := (e4.trans e8).put nfl (noext hfl6 lst_ext)
        refine ⟨_, _, _, _, rfl, e9, upd_same, ?_⟩
        rw [take_more hx', ← List.append_assoc]
        exact paired_snoc (StepAt.stay (fun a xs e => tup_stay hfl6 (e8.tup e)) hacc4) ⟨t4, t3, rfl, tup_stay hfl6 upd_same, tup_stay hfl6 ((Ext.of_new nt4).tup ht3)⟩
      · rintro σ H3 ⟨acc, u7, u8, u9, rfl, e4, hfl4, hacc4⟩
        refine ⟨acc, _, _, _, _, rfl, e4, hfl4, ?_, by omega⟩
        have hn : (stepsK m.cs r s k).take xs.length = stepsK m.cs r s k := by
          apply List.take_of_length_le
          rw [hsk, List.length_map, paired_len hxs]
          exact Nat.le_refl _
        rw [hn] at hacc4
        rw [List.range_succ, List.flatMap_append]
        simpa using hacc4
    · rintro σ H2 ⟨acc, u6, u7, u8, u9, rfl, e3, hfl3, hacc, hk4⟩
      refine ⟨_, rfl, q fl acc H2 (e1.trans e3) hfl3 ?_⟩
      rw [stepsFrom_eq, ← paired_len hus]
      exact hacc
/-! ### further -/
end
theorem CdAt.stay {H H' : Hp} (k : ∀ a xs, H a = some (.tup xs) → H' a = some (.tup xs)) : ∀ {c : Cd} {v : V}, CdAt H v c → CdAt H' v c
  | .atm n, v, ⟨a, h1, h2⟩ => ⟨a, h1, k _ _ h2⟩
  | .dv n, v, ⟨a, h1, h2⟩ => ⟨a, h1, k _ _ h2⟩
  | .nt c, v, ⟨a, u, h1, h2, h3⟩ => ⟨a, u, h1, k _ _ h2, CdAt.stay k h3⟩
  | .orr c d, v, ⟨a, u, w, h1, h2, h3, h4⟩ => ⟨a, u, w, h1, k _ _ h2, CdAt.stay k h3, CdAt.stay k h4⟩
theorem GnAt.stay {H H' : Hp} (k : ∀ a xs, H a = some (.tup xs) → H' a = some (.tup xs)) {v : V} {g : Gn} (h : GnAt H v g) : GnAt H' v g := by
  unfold GnAt at h ⊢
  cases q : g.kc with
  | none =>
    rw [q] at h
    obtain ⟨a, h1, h2⟩ := h
    exact ⟨a, h1, k _ _ h2⟩
  | some c =>
    rw [q] at h
    obtain ⟨a, u, w, h1, h2, ⟨b, h3, h4⟩, h5⟩ := h
    exact ⟨a, u, w, h1, k _ _ h2, ⟨b, h3, k _ _ h4⟩, CdAt.stay k h5⟩
theorem CmAt.stay {H H' : Hp} (k : ∀ a xs, H a = some (.tup xs) → H' a = some (.tup xs)) {v : V} {c : Cm} (h : CmAt H v c) : CmAt H' v c := by
  obtain ⟨a, gu, ge, h1, h2, h3, h4⟩ := h
  exact ⟨a, gu, ge, h1, k _ _ h2, CdAt.stay k h3, GnAt.stay k h4⟩
theorem McAt.stay {H H' : Hp} (k : ∀ a xs, H a = some (.tup xs) → H' a = some (.tup xs)) {v : V} {m : Mc} (h : McAt H v m) : McAt H' v m := by
  obtain ⟨a, t, vs, h1, h2, h3, h4⟩ := h
  exact ⟨a, t, vs, h1, k _ _ h2, k _ _ h3, L2.Paired.mapP h4 fun _ _ => CmAt.stay k⟩
theorem upd_comm {H : Hp} {a b : Addr} {o u : HO} (h : a ≠ b) : upd (upd H a o) b u = upd (upd H b u) a o := by
  funext c
  unfold upd
  by_cases c1 : c = b
  · rw [if_pos c1, if_neg (fun z => h (z.symm.trans c1)), if_pos c1]
  · rw [if_neg c1]
    by_cases c2 : c = a
    · rw [if_pos c2, if_pos c2]
    · rw [if_neg c2, if_neg c2, if_neg c1]
section
variable [Tb] {P : Program} {w : World} {K : PySem.W.Frag} {mg : Str → Option Value} {base : Heap}
def spFurther : Sp := fun vs H Q _ => ∃ (mv : V) (m : Mc) (dt dr : Addr) (od : Obj) (kvs : List (Key × V)) (L : Lay), vs = [mv, .ref dt, .ref dr] ∧ McAt H mv m ∧ Mc.wf m ∧ TabsAt H dt m ∧ H dr = some (.frz od (.dK kvs)) ∧ Paired (LayAt H) kvs L ∧ (L.map (·.1)).Nodup ∧ (∀ p ∈ L, p.2.length ≤ 1000) ∧ L.length ≤ 1000 ∧
  ∀ p kvs' H', H p = none → Ext H H' → H' p = some (.dK kvs') → Paired (LayAt H') kvs' (further m.cs L) → Q (.ref p) H'
theorem scFurther : FnScope ["some_machine", "tables", "rows", "found", "state", "later", "row"] ["some_machine", "tables", "rows"] (defScope sFurther) := ⟨rfl, rfl, rfl, by decide +kernel, rfl, by decide +kernel, by decide +kernel⟩
theorem stepsFrom_len {m : Mc} (hw : Mc.wf m) (r : List Int) (s : Int) : (stepsFrom m.cs r s).length ≤ 12 := by
  rw [stepsFrom_eq]
  have h1 := flat_len (f := stepsK m.cs r s) (fun k => stepsK_len hw.cs) (List.range (allowed m.cs s).length)
  rw [List.length_range] at h1
  have h2 : (allowed m.cs s).length ≤ m.cs.length := List.length_filter_le _ _
  have := hw.few
  omega
theorem put1_t {L : Lay} {p : Int × List Int} (h : better L p.1 p.2 = true) : put1 L p = putS L p.1 p.2 := if_pos h
theorem put1_f {L : Lay} {p : Int × List Int} (h : better L p.1 p.2 = false) : put1 L p = L := if_neg (by rw [h]; exact Bool.false_ne_true)
def FurJ (Hb H2 : Hp) (mv : V) (dt dr fd0 p : Addr) (s : Int) (n : Nat) (L0 : Lay) (xs : List V) : L2.St → Hp → Prop := fun σ H' => ∃ acc u5 u6, σ = [some mv, some (.ref dt), some (.ref dr), some (.ref fd0), some (.int s), u5, u6] ∧ Ext Hb H' ∧ H' fd0 = some (.dK acc) ∧ Paired (LayAt H') acc L0 ∧ acc.length ≤ n ∧
  H' p = some (.lst xs) ∧ ∀ a xs, H2 a = some (.tup xs) → H' a = some (.tup xs)
theorem ok_further {f fS : Addr} {fd fdS : FuncData} (F : FnP K "further" "further" sFurther f fd) (hlen : mg "len" = none)
    (FS : FnOk P w K mg base CX0 3 fS fdS ["some_machine", "tables", "rows", "state"] spSteps) (gS : mg "steps_from" = some (.ref fS)) (kS : PySem.W.keepIn K (.ref fS) = true) (bS : Binds K fdS ["some_machine", "tables", "rows", "state"] []) :
    FnOk P w K mg base CX0 4 f fd ["some_machine", "tables", "rows"] spFurther := by
  refine F.ok scFurther (fun vs H Q E h => ?_) (fun cdv A outer s0 H vs Q E hr h => ?_)
  · obtain ⟨mv, m, dt, dr, od, kvs, L, rfl, _⟩ := h
    rfl
  · obtain ⟨mv, m, dt, dr, od, kvs, L, rfl, hm, hw, htab, hdr, hlay, hnd, hrl, hLl, q⟩ := h
    have hu := hu_of hr
    have nd := scFurther.nd
    have two : 2 ≤ sizeLine := by decide
    refine ⟨_, PSs.nox (pss_cons (ps_set (i := 3) nd rfl (Or.inl rfl) pe_dnewK)
        (pss_cons (ps_for PassesOwn.never rfl (pi_keys (pv 2)) (pg_name (i := 4) nd rfl (Or.inl rfl))
        (pss_one (ps_for PassesOwn.never rfl (pi_list (pe_call FS hr rfl gS kS bS .nil pass0 (pa_cons (pv 0) (pa_cons (pv 1) (pa_cons (pv 2) (pa_cons (pv 4) pa_nil)))))) (pg_tup rfl (pgs_cons (pg_name (i := 5) nd rfl (Or.inl rfl)) (pgs_cons (pg_name (i := 6) nd rfl (Or.inl rfl)) pgs_nil)))
          (pss_one (ps_if (PW.pt (pw_or (pt_cmp (pc_dnotin hu (pv 5) (pv 3))) (pw_or1 (pt_cmpR (op_ltRow (units8 hr)) (pe_tup (pa_cons (pe_callB call_len_seq (by rfl) hlen PySem.boot_len (pa_cons (pv 6) pa_nil)) (pa_cons (pv 6) pa_nil)))
                (pe_tup (pa_cons (pe_callB call_len_seq (by rfl) hlen PySem.boot_len (pa_cons (pe_dget hu (pv 3) (pv 5) (fun _ _ => rfl)) pa_nil)) (pa_cons (pe_dget hu (pv 3) (pv 5) (fun _ _ => rfl)) pa_nil))) (nomark _)))))
              (pss_one (ps_dput hu (pv 3) (pv 5) (pv 6) rfl)) pss_nil)))))
        (pss_one (ps_ret (pv 3))))), ?_⟩
    intro fd0 nfd
    have hlen2 := paired_len hlay
    refine ⟨_, rfl, dr, od, rfl, .inl ⟨kvs, (Ext.of_new nfd).frz hdr, ?_⟩⟩
    refine for_it walk_keys (fun i σ H' => ∃ acc u4 u5 u6, σ = [some mv, some (.ref dt), some (.ref dr), some (.ref fd0), u4, u5, u6] ∧ Ext H H' ∧ H' fd0 = some (.dK acc) ∧ Paired (LayAt H') acc (further m.cs (L.take i)) ∧ acc.length ≤ 12 * i) ?_ (fun i σ H' _ ⟨_, _, _, _, _, e, _⟩ => e.frz hdr) ?_ ?_
    · exact ⟨[], none, none, none, rfl, Ext.of_new nfd, upd_same, .nil, Nat.zero_le _⟩
    · rintro i x σ H0 H1 hi ⟨acc, u4, u5, u6, rfl, e1, hfd, hacc, hal⟩ ⟨rfl, k0, v0, hkv, rfl⟩
      obtain ⟨pl, hpl, ek, ra, ev, hra⟩ := paired_get hlay hkv
      have ek : k0 = Sum.inl pl.1 := ek
      have ev : v0 = .ref ra := ev
      subst ek ev
      have hmemL : pl ∈ L := List.mem_of_getElem? hpl
      have hget : getS L pl.1 = some pl.2 := getS_of_mem hnd hmemL
      obtain ⟨ra', hval, hra'⟩ := lay_some hlay hget
      refine ⟨_, rfl, _, rfl, _, rfl, _, rfl, mv, m, dt, dr, ra', kvs, pl.1, pl.2, rfl, e1.mc hm, hw, e1.tabs htab, .inr ⟨od, e1.frz hdr⟩, hval, e1.tup hra', hrl pl hmemL, fun p xs H2 e2 hp hxs => ⟨p, rfl, ⟨_, SqL.of hp⟩, ?_⟩⟩
      have hfd2 := e2.dK hfd
      have npf : p ≠ fd0 := ne_of hp hfd2 (by intro z; cases z)
      have hsl := stepsFrom_len hw pl.2 pl.1
      have hxl := paired_len hxs
      refine for_list (K := K) (a := p) (xs := xs) (fun j => FurJ H H2 mv dt dr fd0 p pl.1 (12 * i + j) (((stepsFrom m.cs pl.2 pl.1).take j).foldl put1 (further m.cs (L.take i))) xs) ?_ ?_ ?_ ?_
      · exact ⟨acc, u5, u6, rfl, e1.trans e2, hfd2, e2.lay hacc, hal, hp, fun _ _ e => e⟩
      · rintro j σ H3 _ ⟨acc, u5, u6, rfl, e3, hfd3, hacc3, hal3, hp3, tk⟩
        exact SqL.of hp3
      · rintro j x σ H3 hx ⟨acc, u5, u6, rfl, e3, hfd3, hacc3, hal3, hp3, tk⟩
        obtain ⟨t, ht, sq, sa, rfl, g1, g2⟩ := paired_get hxs hx
        have hjl : j < xs.length := (List.getElem?_eq_some_iff.mp hx).1
        refine ⟨sq, _, rfl, SqT.of (tk _ _ g1), rfl, _, _, rfl, _, _, rfl, rfl, ?_⟩
        refine ⟨_, rfl, _, rfl, fd0, _, rfl, DGet.k (k := Sum.inl t.1) hfd3, _, rfl, ?_⟩
        have iLlen : i < kvs.length := hi
        have eL : ((stepsFrom m.cs pl.2 pl.1).take (j + 1)).foldl put1 (further m.cs (L.take i)) = put1 (((stepsFrom m.cs pl.2 pl.1).take j).foldl put1 (further m.cs (L.take i))) t := by
          rw [take_more ht, List.foldl_append]
          rfl
        have hl4 := paired_len hacc3
        have finT : better (((stepsFrom m.cs pl.2 pl.1).take j).foldl put1 (further m.cs (L.take i))) t.1 t.2 = true → ∀ H4, Ext H3 H4 → FurJ H H2 mv dt dr fd0 p pl.1 (12 * i + (j + 1)) (((stepsFrom m.cs pl.2 pl.1).take (j + 1)).foldl put1 (further m.cs (L.take i))) xs
            [some mv, some (.ref dt), some (.ref dr), some (.ref fd0), some (.int pl.1), some (.int t.1), some (.ref sa)] (upd H4 fd0 (.dK (putK acc (Sum.inl t.1) (.ref sa)))) := by
          intro hb H4 e4
          have hfd4 := e4.dK hfd3
          rw [eL, put1_t hb]
          have tk4 : ∀ a xs, H4 a = some (.tup xs) → (upd H4 fd0 (.dK (putK acc (Sum.inl t.1) (.ref sa)))) a = some (.tup xs) := fun a xs e => by rw [upd_ne (ne_of e hfd4 (by intro z; cases z))]; exact e
          have hl2 := putS_len (((stepsFrom m.cs pl.2 pl.1).take j).foldl put1 (further m.cs (L.take i))) t.1 t.2
          have hp' := lay_put (s := t.1) (e4.tup (tk _ _ g2)) (e4.lay hacc3)
          have hl3 := paired_len hp'
          exact ⟨_, _, _, rfl, (e3.trans e4).put nfd (noext hfd4 dK_ext), upd_same, LayAt.stay tk4 hp', by omega, by rw [upd_ne npf]; exact e4.lst hp3, fun a xs e => tk4 _ _ (e4.tup (tk _ _ e))⟩
        have finF : better (((stepsFrom m.cs pl.2 pl.1).take j).foldl put1 (further m.cs (L.take i))) t.1 t.2 = false → ∀ H4, Ext H3 H4 → FurJ H H2 mv dt dr fd0 p pl.1 (12 * i + (j + 1)) (((stepsFrom m.cs pl.2 pl.1).take (j + 1)).foldl put1 (further m.cs (L.take i))) xs
            [some mv, some (.ref dt), some (.ref dr), some (.ref fd0), some (.int pl.1), some (.int t.1), some (.ref sa)] H4 := by
          intro hb H4 e4
          rw [eL, put1_f hb]
          exact ⟨acc, _, _, rfl, e3.trans e4, e4.dK hfd3, e4.lay hacc3, by omega, e4.lst hp3, fun a xs e => e4.tup (tk _ _ e)⟩
        cases hg : getS (((stepsFrom m.cs pl.2 pl.1).take j).foldl put1 (further m.cs (L.take i))) t.1 with
        | none =>
          rw [lay_none hacc3 hg]
          refine iteT (iteT ⟨_, rfl, _, rfl, _, rfl, fd0, _, rfl, DPut.k (k := Sum.inl t.1) hfd3 (len_lt (by omega)), finT ?_ H3 (Ext.refl H3)⟩)
          unfold better
          rw [hg]
        | some qr =>
          obtain ⟨qa, hv, hqa⟩ := lay_some hacc3 hg
          rw [hv]
          have hsa := tk _ _ g2
          refine iteF ⟨_, rfl, sa, _, rfl, .inr (SqT.of hsa), _, rfl, two, fun p1 np1 => ?_⟩
          have e1' := Ext.of_new (o := .tup [.int ((t.2.map V.int).length : Int), .ref sa]) np1
          have hfd5 := e1'.dK hfd3
          refine ⟨_, rfl, _, rfl, fd0, .ref qa, rfl, by rw [← hv]; exact DGet.k (k := Sum.inl t.1) hfd5, qa, _, rfl, .inr (SqT.of (e1'.tup hqa)), _, rfl, _, rfl, fd0, .ref qa, rfl, by rw [← hv]; exact DGet.k (k := Sum.inl t.1) hfd5, two, fun p2 np2 => ?_⟩
          have e2' := Ext.of_new (o := .tup [.int ((qr.map V.int).length : Int), .ref qa]) np2
          have e12 := e1'.trans e2'
          have hb : better (((stepsFrom m.cs pl.2 pl.1).take j).foldl put1 (further m.cs (L.take i))) t.1 t.2 = less t.2 qr := by
            unfold better
            rw [hg]
          refine ⟨t.2, qr, LenRow.of (e2'.tup upd_same) (e12.tup hsa), LenRow.of upd_same (e12.tup hqa), _, rfl, ?_⟩
          cases hc : less t.2 qr with
          | true => exact iteT ⟨_, rfl, _, rfl, _, rfl, fd0, _, rfl, DPut.k (k := Sum.inl t.1) (e12.dK hfd3) (len_lt (by omega)), finT (hb.trans hc) _ e12⟩
          | false => exact iteF (finF (hb.trans hc) _ e12)
      · rintro σ H3 ⟨acc, u5, u6, rfl, e3, hfd3, hacc3, hal3, hp3, tk⟩
        have hn : (stepsFrom m.cs pl.2 pl.1).take xs.length = stepsFrom m.cs pl.2 pl.1 := List.take_of_length_le (by omega)
        rw [hn] at hacc3
        refine ⟨acc, _, _, _, rfl, e3, hfd3, ?_, by omega⟩
        rw [take_more hpl]
        unfold CRM.further at hacc3 ⊢
        rw [List.foldl_append]
        exact hacc3
    · rintro σ H1 ⟨acc, u4, u5, u6, rfl, e1, hfd, hacc, hal⟩
      rw [hlen2, List.take_length] at hacc
      exact ⟨_, rfl, q fd0 acc H1 nfd e1 hfd hacc⟩
end
end Cr
set_option Elab.async false
set_option linter.all false
set_option maxRecDepth 100000
set_option maxHeartbeats 4000000
/-! Choicerows: a set comprehension with two clauses, both without tests. -/
namespace Cr
open PySem PySem.Spec PyProof.Rows L2
abbrev sc2 (elt t0 i0 t1 i1 : Expr) (scope : Scope) (pos : Pos) : Expr := .SetComp elt [⟨t0, i0, [], 0⟩, ⟨t1, i1, [], 0⟩] scope pos
/-! ### the turns -/
theorem sc2_turn0 (elt t0 i0 t1 i1 : Expr) (scope : Scope) (pos : Pos) (it acc : Value) (env : Env) :
    compTurn (sc2 elt t0 i0 t1 i1 scope pos) 0 it acc env = (do
      standAt i0.pos
      match ← pyNext it with
      | none => pure (.done .next)
      | some item =>
        letOwnedTupleGo t0 it item
        assign t0 env item
        let inner ← eval i1 env
        standAt i1.pos
        let inner ← foldedSetIterable i1 env inner
        let _ ← runOwn (.compStart (sc2 elt t0 i0 t1 i1 scope pos) 1 (← holding [inner] (pyIter inner)) acc env) env
        again (.compLoop (sc2 elt t0 i0 t1 i1 scope pos) 0 it acc env)) := by rfl
theorem sc2_turn1 (elt t0 i0 t1 i1 : Expr) (scope : Scope) (pos : Pos) (it acc : Value) (env : Env) :
    compTurn (sc2 elt t0 i0 t1 i1 scope pos) 1 it acc env = (do
      standAt i1.pos
      match ← pyNext it with
      | none => pure (.done .next)
      | some item =>
        letOwnedTupleGo t1 it item
        assign t1 env item
        (do let made ← eval elt env; standAt elt.pos; let _ ← call (.builtin "set.add") [acc, made])
        again (.compLoop (sc2 elt t0 i0 t1 i1 scope pos) 1 it acc env)) := by rfl
abbrev NoE : Value → Shared → Prop := fun _ _ => False
theorem toE {α : Type} {M : Model} {A : Around} {t : Sem α} {Q : α → Shared → Prop} {E : Value → Shared → Prop} {s : Shared} (h : wpAny M A t Q NoE s) : wpAny M A t Q E s := wpAny_mono h (fun _ _ z => z) fun _ _ z => z.elim
section
variable {prog : Program} {w : World} {A : Around} {R : Result → Shared → Prop} {s : Shared} {elt t0 i0 t1 i1 : Expr} {scope : Scope} {pos : Pos} {it acc : Value} {env : Env}
/-- the loop over the first source -/
theorem sc2_loop0 (hs : ∀ x, foldedSetIterable i1 env x = pure x) (Z : Nat → Shared → Prop)
    (body : ∀ n s, Z n s → wpAny (model prog w) A (pyNext it) (fun r s1 => match r with
      | none => R (.ok .next) s1
      | some item => wpAny (model prog w) A (letOwnedTupleGo t0 it item) (fun _ s2 => wpAny (model prog w) A (assign t0 env item) (fun _ s3 => wpAny (model prog w) A (eval i1 env) (fun x s4 => wpAny (model prog w) A (pyIter x) (fun it1 s5 =>
          codeAny (model prog w) A (.compStart (sc2 elt t0 i0 t1 i1 scope pos) 1 it1 acc env) (fun r s6 => (∃ f, r = .ok f) ∧ ∃ m, m < n ∧ Z m s6) s5) NoE s4) NoE s3) NoE s2) NoE s1) NoE s)
    (n : Nat) (h : Z n s) : codeAny (model prog w) A (.compLoop (sc2 elt t0 i0 t1 i1 scope pos) 0 it acc env) R s := by
  refine codeAny_loop rfl Z (fun k sk hk => ?_) n h
  show wpAny _ A ((compTurn (sc2 elt t0 i0 t1 i1 scope pos) 0 it acc env).onRaise (fun x => do noteFrame x env; theTreesLotGoes x)) _ _ sk
  apply wpAny_noted
  rw [sc2_turn0]
  apply wpAny_bind
  apply wpAny_standAt
  apply wpAny_bind
  refine toE (wpAny_mono (body k sk hk) (fun r s1 h1 => ?_) fun _ _ z => z)
  cases r with
  | none => exact wpAny_pure h1
  | some item =>
    apply wpAny_bind
    refine toE (wpAny_mono h1 (fun _ s2 h2 => ?_) fun _ _ z => z)
    apply wpAny_bind
    refine toE (wpAny_mono h2 (fun _ s3 h3 => ?_) fun _ _ z => z)
    apply wpAny_bind
    refine toE (wpAny_mono h3 (fun x s4 h4 => ?_) fun _ _ z => z)
    apply wpAny_bind
    apply wpAny_standAt
    apply wpAny_bind
    refine wpAny_of_eq (hs x) ?_
    apply wpAny_bind
    apply wpAny_holding
    refine toE (wpAny_mono h4 (fun it1 s5 h5 => ?_) fun _ _ z => z)
    refine wpAny_bind (wpAny_runOwn ?_)
    rw [Around.mark_none]
    refine codeAny_mono h5 fun r s6 hr => ?_
    obtain ⟨⟨f, rfl⟩, hz⟩ := hr
    first
      | exact wpAny_pure ⟨rfl, hz⟩
      | exact wpAny_bind (wpAny_pure (wpAny_pure ⟨rfl, hz⟩))
/-- .. over the second -/
theorem sc2_loop1 (Z : Nat → Shared → Prop)
    (body : ∀ n s, Z n s → wpAny (model prog w) A (pyNext it) (fun r s1 => match r with
      | none => R (.ok .next) s1
      | some item => wpAny (model prog w) A (letOwnedTupleGo t1 it item) (fun _ s2 => wpAny (model prog w) A (assign t1 env item) (fun _ s3 => wpAny (model prog w) A (eval elt env) (fun x s4 =>
          wpAny (model prog w) A (call (.builtin "set.add") [acc, x]) (fun _ s5 => ∃ m, m < n ∧ Z m s5) NoE s4) NoE s3) NoE s2) NoE s1) NoE s)
    (n : Nat) (h : Z n s) : codeAny (model prog w) A (.compLoop (sc2 elt t0 i0 t1 i1 scope pos) 1 it acc env) R s := by
  refine codeAny_loop rfl Z (fun k sk hk => ?_) n h
  show wpAny _ A ((compTurn (sc2 elt t0 i0 t1 i1 scope pos) 1 it acc env).onRaise (fun x => do noteFrame x env; theTreesLotGoes x)) _ _ sk
  apply wpAny_noted
  rw [sc2_turn1]
  apply wpAny_bind
  apply wpAny_standAt
  apply wpAny_bind
  refine toE (wpAny_mono (body k sk hk) (fun r s1 h1 => ?_) fun _ _ z => z)
  cases r with
  | none => exact wpAny_pure h1
  | some item =>
    apply wpAny_bind
    refine toE (wpAny_mono h1 (fun _ s2 h2 => ?_) fun _ _ z => z)
    apply wpAny_bind
    refine toE (wpAny_mono h2 (fun _ s3 h3 => ?_) fun _ _ z => z)
    apply wpAny_bind
    apply wpAny_bind
    refine toE (wpAny_mono h3 (fun x s4 h4 => ?_) fun _ _ z => z)
    apply wpAny_bind
    apply wpAny_standAt
    apply wpAny_bind
    refine toE (wpAny_mono h4 (fun _ s5 h5 => ?_) fun _ _ z => z)
    exact wpAny_pure (wpAny_pure ⟨rfl, h5⟩)
/-- the second loop begins -/
theorem sc2_begin (h0 : codeAny (model prog w) A (.compLoop (sc2 elt t0 i0 t1 i1 scope pos) 1 it acc env) R s)
    (h : wpAny (model prog w) A (pyIter it) (fun it' s' => codeAny (model prog w) A (.compLoop (sc2 elt t0 i0 t1 i1 scope pos) 1 it' acc env) R s') NoE s) :
    codeAny (model prog w) A (.compStart (sc2 elt t0 i0 t1 i1 scope pos) 1 it acc env) R s := by
  apply codeAny_of_tree
  show wpAny _ _ ((compStart (sc2 elt t0 i0 t1 i1 scope pos) 1 it acc env).onRaise (fun x => do noteFrame x env; standAt theWindowsPlace)) _ _ s
  apply wpAny_notedAt
  unfold compStart
  show wpAny _ _ (ask >>= _) _ _ s
  apply wpAny_bind
  apply wpAny_askSetting
  apply wpAny_ite
  split
  · first
      | exact wpAny_bind (wpAny_pure (wpAny_pure ⟨rfl, h0⟩))
      | exact wpAny_pure ⟨rfl, h0⟩
  · apply wpAny_bind
    apply wpAny_rule
    show wpAny _ _ (standAt i1.pos >>= _) _ _ s
    apply wpAny_bind
    apply wpAny_standAt
    apply wpAny_bind
    exact toE (wpAny_mono h (fun it' s' h' => wpAny_pure ⟨rfl, h'⟩) fun _ _ z => z)
end
/-! ### the rule -/
/-- at the end of a turn: the iterator's objects stand as they were pinned -/
theorem pins_back {B : Cx} {pins : List (Addr × Obj)} {fp : List Addr} {σ τ : L2.St} {Hn : Hp} {vs : List Nat} {sp s' : Shared} {tg : Expr} {J : It} {it : Addr} {tn : Nat → Heap → Prop} {i : Nat} (T : Turn B.prog B.w B.K tg J fp it tn) (hat : tn i sp.heap) (hw : wipe τ vs = wipe σ vs)
    (I : Inv B (pins ++ pinsAt fp sp.heap) τ Hn s') : Inv B pins (wipe σ vs) Hn s' ∧ tn i s'.heap ∧ ∀ b ∈ fp, Hn b = none := by
  have there : ∀ b ∈ fp, ∀ o, sp.heap.get? b = some o → s'.heap.get? b = some o ∧ Hn b = none := fun b hb o e => by
    have z := I.pin (b, o) (List.mem_append_right _ (List.mem_append_right _ (mem_pinsAt hb e)))
    exact ⟨z.1, z.2.1⟩
  refine ⟨I.unpinned.weak (by rw [← hw, wipe_length]) fun k v e => ?_, T.keep _ _ _ hat fun b hb o e => (there b hb o e).1, fun b hb => ?_⟩
  · rw [← hw] at e
    exact (wipe_some e).1
  · obtain ⟨o, e, _⟩ := T.obj _ _ hat b hb
    exact (there b hb o e).2
/-- the second clause, from its iterator to its end -/
theorem sc2_inner {B : Cx} (hx : B.xe = NoE) (hc : B.calm = true) {pins : List (Addr × Obj)} {σ2 : L2.St} {H3 : Hp} {s : Shared} {elt t0 i0 t1 i1 : Expr} {scope : Scope} {pos : Pos} {J1 : It} {fp1 : List Addr} {it1 D : Addr} {tn1 : Nat → Heap → Prop} {g1 : TG} {te : TE} {vs1 : List Nat} {Nx : Hp → Prop} {W1 : Nat → Nat → Hp → Prop} {Z : Shared → Prop}
    (T1 : Turn B.prog B.w B.K t1 J1 fp1 it1 tn1) (I : Inv B pins σ2 H3 s) (at0 : tn1 0 s.heap) (own1 : ∀ b ∈ fp1, FpOk B pins H3 b) (PG1 : PG B t1 g1) (PE1 : PE B elt te) {m0 : Nat} (w0 : W1 0 m0 H3)
    (turn : ∀ j k Hj, W1 j k Hj → (J1.stop j Hj ∧ Nx Hj) ∨ (J1.go j Hj ∧ ∃ Nx1 : Hp → Prop, (∀ Hn, Nx1 Hn → ∃ k', k' < k ∧ W1 (j + 1) k' Hn) ∧ ∀ y Hz, J1.yld j Hj y Hz → g1 y (wipe σ2 vs1) Hz fun σ3 H4 => wipe σ3 vs1 = wipe σ2 vs1 ∧
        te σ3 H4 fun z H5 => ∃ (c : Int) (S : Int → Bool) (n : Nat), z = .int c ∧ H5 D = some (SetO B.w D S n) ∧ n + 1 < scanBound ∧ Nx1 (upd H5 D (SetO B.w D (fun j => S j || decide (j = c)) (if S c = true then n else n + 1)))))
    (fin : ∀ s' Hn, Inv B pins (wipe σ2 vs1) Hn s' → Nx Hn → Z s') :
    codeAny (model B.prog B.w) B.A (.compStart (sc2 elt t0 i0 t1 i1 scope pos) 1 (.ref it1) (.ref D) B.env) (fun r s' => (∃ f, r = .ok f) ∧ Z s') s := by
  have still : ∀ {Hn : Hp}, (∀ b ∈ fp1, Hn b = none) → ∀ b ∈ fp1, FpOk B pins Hn b := fun hn b hb => ⟨hn b hb, (own1 b hb).2⟩
  have loop : codeAny (model B.prog B.w) B.A (.compLoop (sc2 elt t0 i0 t1 i1 scope pos) 1 (.ref it1) (.ref D) B.env) (fun r s' => (∃ f, r = .ok f) ∧ Z s') s := by
    refine sc2_loop1 (fun k s' => ∃ j Hj, Inv B pins (wipe σ2 vs1) Hj s' ∧ tn1 j s'.heap ∧ (∀ b ∈ fp1, Hj b = none) ∧ W1 j k Hj) ?_ m0 ⟨0, H3, I.weak (wipe_length _ _) (fun k v e => (wipe_some e).1), at0, fun b hb => (own1 b hb).1, w0⟩
    rintro k sj ⟨j, Hj, Ij, atj, nj, wj⟩
    rcases turn j k Hj wj with ⟨stop, nx⟩ | ⟨go, Nx1, more, step⟩
    · refine wpAny_mono (T1.done B rfl rfl rfl hc j pins sj _ Hj NoE Ij (still nj) atj stop) (fun r se he => ?_) fun _ _ z => z
      obtain ⟨rfl, Ie⟩ := he
      exact ⟨⟨_, rfl⟩, fin se Hj Ie nx⟩
    · refine wpAny_mono (T1.item B rfl rfl rfl hc j pins sj _ Hj NoE Ij (still nj) atj go) (fun r sr hr => ?_) fun _ _ z => z
      obtain ⟨u, rfl, hr⟩ := hr
      refine wpAny_mono hr (fun _ sy hy => ?_) fun _ _ z => z
      obtain ⟨y, Hy, Iy, ry, yy, aty, ny⟩ := hy
      have Ip := Iy.pinned (still ny) (T1.obj _ _ aty)
      have run1 := PG1.run _ sy _ Hy y u _ Ip ry (step y Hy yy)
      rw [hx] at run1
      refine wpAny_mono run1 (fun _ sg hg => ?_) fun _ _ z => z
      obtain ⟨σ3, H4, I4, hw, q4⟩ := hg
      have run2 := PE1.run _ sg σ3 H4 _ I4 q4
      rw [hx] at run2
      refine wpAny_mono run2 (fun v se he => ?_) fun _ _ z => z
      obtain ⟨z, H5, I5, rz, c, S, n, rfl, hD, room, nx⟩ := he
      have run3 := mt_sadd (X := B) _ se σ3 H5 (.ref D) [.int c] (.ref D) [v] (fun _ Hn => Nx1 Hn) I5 rfl (.cons rz .nil) ⟨D, c, S, n, rfl, rfl, hD, room, nx⟩
      rw [hx] at run3
      refine wpAny_mono run3 (fun v2 sl hl => ?_) fun _ _ z => z
      obtain ⟨_, Hl, Il, _, nxl⟩ := hl
      obtain ⟨k', lt, wn⟩ := more Hl nxl
      obtain ⟨a, b, d⟩ := pins_back (σ := σ2) T1 aty hw Il
      exact ⟨k', lt, j + 1, Hl, a, b, d, wn⟩
  exact sc2_begin loop (T1.self B.A 0 s _ _ at0 loop)
section
variable {X : Cx}
/-- {elt for t0 in i0 for t1 in i1}: D is the new set of whole numbers; vs: the names of the block, vs1: those of the second target -/
def tSc2 (w : World) (wi : TI) (g : TG) (wi1 : TI) (g1 : TG) (te : TE) (vs vs1 : List Nat) : TE := fun σ H Q => wi σ H fun J H1 => ∀ D, H1 D = none → ∃ W : Nat → Nat → Hp → Prop, (∃ m, W 0 m (upd H1 D (SetO w D (fun _ => false) 0))) ∧ ∀ i m Hi, W i m Hi →
  (J.stop i Hi ∧ Q (.ref D) Hi) ∨ (J.go i Hi ∧ ∃ Nx : Hp → Prop, (∀ Hn, Nx Hn → ∃ m', m' < m ∧ W (i + 1) m' Hn) ∧ ∀ x Hy, J.yld i Hi x Hy → g x (wipe σ vs) Hy fun σ2 H2 => wipe σ2 vs = wipe σ vs ∧
    wi1 σ2 H2 fun J1 H3 => ∃ W1 : Nat → Nat → Hp → Prop, (∃ m, W1 0 m H3) ∧ ∀ j k Hj, W1 j k Hj →
      (J1.stop j Hj ∧ Nx Hj) ∨ (J1.go j Hj ∧ ∃ Nx1 : Hp → Prop, (∀ Hn, Nx1 Hn → ∃ k', k' < k ∧ W1 (j + 1) k' Hn) ∧ ∀ y Hz, J1.yld j Hj y Hz → g1 y (wipe σ2 vs1) Hz fun σ3 H4 => wipe σ3 vs1 = wipe σ2 vs1 ∧
        te σ3 H4 fun z H5 => ∃ (c : Int) (S : Int → Bool) (n : Nat), z = .int c ∧ H5 D = some (SetO w D S n) ∧ n + 1 < scanBound ∧ Nx1 (upd H5 D (SetO w D (fun j => S j || decide (j = c)) (if S c = true then n else n + 1)))))
theorem pe_sc2 {elt t0 i0 t1 i1 : Expr} {scope : Scope} {own : List (Str × Nat)} {vs1 : List Nat} {pos : Pos} {wi wi1 : TI} {g g1 : TG} {te : TE} (hc : X.calm = true) (hN : X.N.Nodup) (hi : PI X t0 i0 wi) (ok : BlkOk X.N X.env.scope scope own) (hv : ∀ i ∈ vs1, i ∈ own.map (·.2))
    (hg : ∀ s H C cl fp, PG (X.blk s H scope (compEnvC scope cl C X.env) fp) t0 g) (hi1 : ∀ s H C cl fp, PI (X.blk s H scope (compEnvC scope cl C X.env) fp) t1 i1 wi1)
    (hg1 : ∀ s H C cl fp, PG (X.blk s H scope (compEnvC scope cl C X.env) fp) t1 g1) (he : ∀ s H C cl fp, PE (X.blk s H scope (compEnvC scope cl C X.env) fp) elt te)
    (hs : ∀ x, foldedSetIterable i0 X.env x = pure x := by intro _; rfl) (hs1 : ∀ env x, foldedSetIterable i1 env x = pure x := by intro _ _; rfl) :
    PE X (sc2 elt t0 i0 t1 i1 scope pos) (tSc2 X.w wi g wi1 g1 te (own.map (·.2)) vs1) := by
  refine ⟨fun pins s σ H Q I h => ?_⟩
  rw [PpSet.eval_SetComp]
  have caps : ∀ y ∈ scope.names, y.2 = .free → ∃ c, X.env.cells.lookup y.1 = some c := fun y hy e => I.ok.has _ (ok.free y hy e)
  refine wpAny_comprehension_free (use := none) (g := ⟨t0, i0, [], 0⟩) (gs := [⟨t1, i1, [], 0⟩]) rfl hs (closure_ok caps) ok.kind (fun y hy e => (ok.uniq y hy).trans (by rw [e])) (thn (hi.run pins s σ H _ I h) fun v s1 h1 => thn h1 fun itv s2 h2 => ?_)
  obtain ⟨it, fp, tn, J, H2, rfl, I2, T, at0, own0, q⟩ := h2
  refine PpSet.newSet_ok (newEnv_comp ?_)
  generalize eD : s2.heap.objs.size = D
  obtain ⟨W, ⟨m0, w0⟩, turn⟩ := q D (I2.hok.fresh (Nat.le_of_eq eD))
  -- the empty set is laid
  have I3 : Inv X pins σ (upd H2 D (SetO X.w D (fun _ => false) 0)) { s2 with heap := s2.heap.push { cls := .type "set", dict := none, data := .set #[] 0 (.fresh 0 0 (!X.w.params.followText "set-order")) } } := by
    refine I2.laid (t' := s2.toks) (fun _ _ e => Heap.get?_push_of_some _ e) (Nat.le_of_eq eD) ?_
    subst eD
    exact setO_new (setR_fresh X.w)
  generalize es3 : ({ s2 with heap := s2.heap.push { cls := .type "set", dict := none, data := .set #[] 0 (.fresh 0 0 (!X.w.params.followText "set-order")) } } : Shared) = s3 at I3
  have grown : ∀ b o, s2.heap.get? b = some o → s3.heap.get? b = some o := fun b o e => by rw [← es3]; exact Heap.get?_push_of_some _ e
  have here : ∀ b ∈ fp, FpOk X pins (upd H2 D (SetO X.w D (fun _ => false) 0)) b ∧ b < s3.heap.objs.size := fun b hb => by
    obtain ⟨o, e, _⟩ := T.obj _ _ at0 b hb
    have lt : b < D := by rw [← eD]; exact Heap.lt_size e
    exact ⟨⟨by rw [upd_ne (Nat.ne_of_lt lt)]; exact (own0 b hb).1, (own0 b hb).2⟩, Heap.lt_size (grown b o e)⟩
  have at3 : tn 0 s3.heap := T.keep _ _ _ at0 fun b _ o e => grown b o e
  have I4 := block_start I3 ok hN here
  have PG0 := hg s3 (upd H2 D (SetO X.w D (fun _ => false) 0)) s3.heap.objs.size (cellsFrom (s3.heap.objs.size + 1) scope.names (cloFrom X.env.cells scope.names [])) fp
  have PI1 := hi1 s3 (upd H2 D (SetO X.w D (fun _ => false) 0)) s3.heap.objs.size (cellsFrom (s3.heap.objs.size + 1) scope.names (cloFrom X.env.cells scope.names [])) fp
  have PG1 := hg1 s3 (upd H2 D (SetO X.w D (fun _ => false) 0)) s3.heap.objs.size (cellsFrom (s3.heap.objs.size + 1) scope.names (cloFrom X.env.cells scope.names [])) fp
  have PE1 := he s3 (upd H2 D (SetO X.w D (fun _ => false) 0)) s3.heap.objs.size (cellsFrom (s3.heap.objs.size + 1) scope.names (cloFrom X.env.cells scope.names [])) fp
  show codeAny _ _ (.compStart (sc2 elt t0 i0 t1 i1 scope pos) 0 (.ref it) (.ref D) (compEnvC scope (cellsFrom (s3.heap.objs.size + 1) scope.names (cloFrom X.env.cells scope.names [])) s3.heap.objs.size X.env)) (compPost (model X.prog X.w) X.A X.xe none (EP X pins σ Q) (.ref D) s3.heap.objs.size) { s3 with heap := pushCells (s3.heap.push { cls := .type "dict", data := .dict #[] }) scope.names }
  generalize ec : compEnvC scope (cellsFrom (s3.heap.objs.size + 1) scope.names (cloFrom X.env.cells scope.names [])) s3.heap.objs.size X.env = ce at I4 PG0 PI1 PG1 PE1 ⊢
  have ecl : ce.locals = s3.heap.objs.size := by rw [← ec]; rfl
  generalize eH : upd H2 D (SetO X.w D (fun _ => false) 0) = H3 at I3 I4 PG0 PI1 PG1 PE1 w0 here
  generalize es4 : ({ s3 with heap := pushCells (s3.heap.push { cls := .type "dict", data := .dict #[] }) scope.names } : Shared) = s4 at I4 ⊢
  have at4 : tn 0 s4.heap := T.keep _ _ _ at3 fun b _ o e => by rw [← es4]; exact pushCells_keeps _ _ _ _ (Heap.get?_push_of_some _ e)
  have still : ∀ {τ : L2.St} {Hn : Hp} {s' : Shared}, Inv (X.blk s3 H3 scope ce fp) [] τ Hn s' → (∀ b ∈ fp, Hn b = none) → ∀ b ∈ fp, FpOk (X.blk s3 H3 scope ce fp) [] Hn b := fun {τ Hn s'} In hn b hb =>
    ⟨hn b hb, (In.ok.exf b hb).1, In.ok.exfs b hb, .inl hb, fun x c e => (In.ok.exf b hb).2 x c e, fun p hp => nomatch (show p ∈ ([] : List (Addr × Obj)) from hp)⟩
  have loop : codeAny (model X.prog X.w) X.A (.compLoop (sc2 elt t0 i0 t1 i1 scope pos) 0 (.ref it) (.ref D) ce) (compPost (model X.prog X.w) X.A X.xe none (EP X pins σ Q) (.ref D) s3.heap.objs.size) s4 := by
    refine sc2_loop0 (hs1 ce) (fun m s' => ∃ i Hn, Inv (X.blk s3 H3 scope ce fp) [] (wipe σ (own.map (·.2))) Hn s' ∧ tn i s'.heap ∧ (∀ b ∈ fp, Hn b = none) ∧ W i m Hn) ?_ m0 ⟨0, H3, I4, at4, fun b hb => (here b hb).1.1, w0⟩
    rintro m si ⟨i, Hi, Ii, ati, ni, wi'⟩
    rcases turn i m Hi wi' with ⟨stop, qq⟩ | ⟨go, Nx, more, step⟩
    · refine wpAny_mono (T.done (X.blk s3 H3 scope ce fp) rfl rfl rfl hc i [] si _ Hi NoE Ii (still Ii ni) ati stop) (fun r se he => ?_) fun _ _ z => z
      obtain ⟨rfl, Ie⟩ := he
      have Ix : Inv X pins σ Hi se := I3.call' (ch := fp) Ie.os Ie.base Ie.hok Ie.bare fun b hb => ⟨(here b hb).1.2.2.2.1, (here b hb).1.2.1, (here b hb).1.2.2.2.2.1, (here b hb).1.2.2.2.2.2⟩
      have hf : Hi s3.heap.objs.size = none := by
        rw [← ecl]
        exact Ie.free
      obtain ⟨mm, hn, _⟩ := Ie.loc
      have hn' : se.heap.Ns s3.heap.objs.size mm := by
        rw [← ecl]
        exact hn
      obtain ⟨f0, f1, f2, f3, f4, f5⟩ := I3.fpOk (H' := Hi) (Nat.le_refl _) hf
      exact ⟨mm, hn', fun h' sb => ⟨.ref D, Hi, Ix.turned (t' := se.toks) (fun b o nb e => (sb.2 b nb).trans e) f0 f1 f3 f4 f5, rfl, qq⟩⟩
    · refine wpAny_mono (T.item (X.blk s3 H3 scope ce fp) rfl rfl rfl hc i [] si _ Hi NoE Ii (still Ii ni) ati go) (fun r sr hr => ?_) fun _ _ z => z
      obtain ⟨u, rfl, hr⟩ := hr
      refine wpAny_mono hr (fun _ sy hy => ?_) fun _ _ z => z
      obtain ⟨x, Hy, Iy, ry, yy, aty, ny⟩ := hy
      have Ip := Iy.pinned (still Iy ny) (T.obj _ _ aty)
      refine wpAny_mono (PG0.run _ sy _ Hy x u _ Ip ry (step x Hy yy)) (fun _ sg hgg => ?_) fun _ _ z => z
      obtain ⟨σ2, H5, I5, hw, q5⟩ := hgg
      refine wpAny_mono (PI1.run _ sg σ2 H5 _ I5 q5) (fun v1 sv hv1 => wpAny_mono hv1 (fun itv sw hw1 => ?_) fun _ _ z => z) fun _ _ z => z
      obtain ⟨it1, fp1, tn1, J1, H6, rfl, I6, T1, at1, own1, W1, ⟨m1, w1⟩, turn1⟩ := hw1
      refine sc2_inner (B := X.blk s3 H3 scope ce fp) rfl hc T1 I6 at1 own1 PG1 PE1 w1 turn1 fun s' Hn In nx => ?_
      obtain ⟨m', lt, wn⟩ := more Hn nx
      have hl : (wipe σ2 vs1).length = σ2.length := wipe_length _ _
      have hk : ∀ (k : Nat) v, (wipe σ (own.map (·.2)))[k]? = some (some v) → (wipe σ2 vs1)[k]? = some (some v) := fun k v e => by
        rw [← hw] at e
        obtain ⟨e1, e2⟩ := wipe_some e
        rw [wipe_out fun z => e2 (hv k z)]
        exact e1
      have In2 : Inv (X.blk s3 H3 scope ce fp) ([] ++ pinsAt fp sy.heap) (wipe σ (own.map (·.2))) Hn s' := In.weak (by rw [← hw, wipe_length, hl]) hk
      obtain ⟨a, b, d⟩ := pins_back (B := X.blk s3 H3 scope ce fp) (pins := []) (σ := wipe σ (own.map (·.2))) (vs := []) T aty rfl In2
      exact ⟨m', lt, i + 1, Hn, a, b, d, wn⟩
  exact PpSet.codeAny_compStart_set loop (T.self X.A 0 _ _ _ at4 loop)
end
end Cr
set_option Elab.async false
set_option linter.all false
set_option maxRecDepth 100000
set_option maxHeartbeats 4000000
/-! Choicerows: rules for layers; layers, reachable. -/
namespace Cr
open PySem PySem.Spec PyProof.Rows L2 CRM
/-! ### what stands at d is fixed for good, behind a statement -/
def tFrz (t : TS) : TS := fun D σ H => t ⟨fun τ Hn => ∃ d u, Hn d = some u ∧ Mut (some u) ∧ ∀ od, D.nx τ (upd Hn d (.frz od u)), D.rt, D.bk, D.ct⟩ σ H
theorem ps_frz {X : Cx} {st : Stmt} {t : TS} (h : PS X st t) : PS X st (tFrz t) := by
  refine ⟨fun pins s σ H D I hw => thn (h.run pins s σ H _ I hw) fun f s1 q => ?_⟩
  cases f with
  | next =>
    obtain ⟨τ, Hn, In, d, u, hd, mu, q⟩ := q
    obtain ⟨od, Il⟩ := In.lock hd mu
    exact ⟨τ, _, Il, q od⟩
  | brk => exact q
  | cont => exact q
  | ret v => exact q
/-! ### len of a set of whole numbers -/
def rLenO (w : World) : List V → Hp → VK → Prop := fun vs H Q => ∃ (a : Addr) (S : Int → Bool) (n : Nat), vs = [.ref a] ∧ H a = some (SetO w a S n) ∧ Q (.int (n : Int)) H
theorem cr_lenO {X : Cx} : CallR X (.builtin "len") (rLenO X.w) := by
  intro pins s σ H vs us Q I r h
  obtain ⟨a, S, n, rfl, ha, q⟩ := h
  obtain rfl := Vals.ref1 r
  obtain ⟨o, es, ep, t, ho, hex, hd, _, _, _, hb, hf, hn, _⟩ := setO_get I ha
  exact call_len_set ho hex hd hf (by unfold scanBound at hb; omega) ⟨.int (n : Int), H, I.tok _, ⟨_, by rw [hn]⟩, q⟩
/-! ### name = {k: v for ..} on one line -/
theorem sw_dict {kx vx : Expr} {gs : List Comprehension} {scope : Scope} {pos py : Pos} {y : Str} {l : Nat} {env : Env} (hk : env.scope.kind = .function) (hy : env.scope.names.lookup y = some .local) (hl : (py.line == pos.line) = true)
    (ha : (scope.names.any fun (n, k) => n == y && (k == .local || k == .cell)) = false) : swapsWith (.DictComp kx vx gs scope pos) (some (.Name y py)) l env = pure true := by
  have k1 : env.kindOf y = some .local := hy
  have k2 : env.blockKind = .function := by unfold Env.blockKind; rw [hk]; rfl
  unfold swapsWith
  simp only [k2, k1, ha, Expr.pos, hl]
  rfl
theorem ps_setDc {X : Cx} {i : Nat} {y : Str} {py pos spos : Pos} {kx vx tg iter : Expr} {ifs : List Expr} {scope : Scope} {own : List (Str × Nat)} {wi : TI} {g : TG} {tt : TT} {tk tv : TE} (hc : X.calm = true) (hN : X.N.Nodup) (hy : X.N[i]? = some y) (hyl : X.env.scope.names.lookup y = some .local)
    (hsw : swapsWith (.DictComp kx vx [⟨tg, iter, ifs, 0⟩] scope pos) (some (.Name y py)) spos.line X.env = pure true) (hi : PI X tg iter wi) (ok : BlkOk X.N X.env.scope scope own)
    (hg : ∀ s H C cl fp, PG (X.blk s H scope (compEnvC scope cl C X.env) fp) tg g) (ht : ∀ s H C cl fp, PTs (X.blk s H scope (compEnvC scope cl C X.env) fp) ifs tt)
    (hk : ∀ s H C cl fp, PE (X.blk s H scope (compEnvC scope cl C X.env) fp) kx tk) (he : ∀ s H C cl fp, PE (X.blk s H scope (compEnvC scope cl C X.env) fp) vx tv) (hs : ∀ x, foldedSetIterable iter X.env x = pure x := by intro _; rfl) :
    PS X (.Assign [.Name y py] (.DictComp kx vx [⟨tg, iter, ifs, 0⟩] scope pos) spos) (tAsg (tDc wi g tt tk tv (own.map (·.2))) (gName i)) := by
  refine ⟨fun pins s σ H D I h => ?_⟩
  have hq : tDc wi g tt tk tv (own.map (·.2)) σ H (fun x H1 => D.nx (σ.set i (some x)) H1) := h
  rw [exec_Assign_Name_used _ _ _ _ hsw]
  apply wpAny_bind
  apply wpAny_standAt
  apply wpAny_bind
  show wpAny _ X.A (do let _ ← comprehension (.DictComp kx vx [⟨tg, iter, ifs, 0⟩] scope pos) scope X.env (firstIterPos [⟨tg, iter, ifs, 0⟩] pos) newDict false (eval iter X.env) (some (assign (.Name y py) X.env))) _ _ s
  apply wpAny_bind
  refine thn (dc_core (Qf := fun _ sn => SP X pins D .next sn) hc hN I hi ok hg ht hk he hs hq fun d C sn m Hn In q hn f => ?_) fun _ _ z => wpAny_pure (wpAny_pure z)
  show wpAny _ _ (assign (.Name y py) X.env (.ref d)) _ _ _
  apply wpAny_assign_Name
  refine store_ok2 (v := V.ref d) In hN hy (.inl hyl) rfl (fun s2 I2 ⟨a, sb, ha⟩ => ?_) (.inr hyl)
  obtain ⟨f0, f1, f2, f3, f4, f5⟩ := f
  have apart : C ≠ a := by
    rcases ha with z | z
    · rw [z]; exact f1
    · exact Ne.symm (f4 y a z)
  refine ⟨m, hn.sameBut sb apart, fun h3 sb3 => ⟨_, Hn, I2.turned (t' := s2.toks) (fun b o nb e => (sb3.2 b nb).trans e) f0 f1 f3 f4 f5, q⟩⟩
/-! ### {state for rows in found for state in rows} -/
def DictAt (H : Hp) (v : V) (L : Lay) : Prop := ∃ d od kvs, v = .ref d ∧ H d = some (.frz od (.dK kvs)) ∧ Paired (LayAt H) kvs L
/-- S is the list l, each once -/
def SetIs (S : Int → Bool) (n : Nat) (l : List Int) : Prop := l.Nodup ∧ l.length = n ∧ ∀ k, S k = true ↔ k ∈ l
theorem SetIs.add {S : Int → Bool} {n : Nat} {l : List Int} (h : SetIs S n l) (c : Int) : ∃ l', SetIs (fun j => S j || decide (j = c)) (if S c = true then n else n + 1) l' ∧ ∀ k, k ∈ l' ↔ k ∈ l ∨ k = c := by
  obtain ⟨h1, h2, h3⟩ := h
  by_cases e : S c = true
  · refine ⟨l, ⟨h1, by rw [if_pos e]; exact h2, fun k => ?_⟩, fun k => ⟨.inl, fun z => z.elim id fun z => by rw [z]; exact (h3 c).mp e⟩⟩
    rw [Bool.or_eq_true, decide_eq_true_eq, h3 k]
    exact ⟨fun z => z.elim id fun z => by rw [z]; exact (h3 c).mp e, .inl⟩
  · refine ⟨c :: l, ⟨List.nodup_cons.mpr ⟨fun z => e ((h3 c).mpr z), h1⟩, by rw [if_neg e, List.length_cons, h2], fun k => ?_⟩, fun k => by rw [List.mem_cons]; exact Or.comm⟩
    rw [Bool.or_eq_true, decide_eq_true_eq, h3 k, List.mem_cons]
    exact Or.comm
theorem sc2_dicts {w : World} {K : PySem.W.Frag} {fl D : Addr} {xs : List V} {Ls : List Lay} {σ : L2.St} {H1 : Hp} {a b : Nat} {vs vs1 : List Nat} {Qd : Hp → Prop}
    (w1 : ∀ x : V, wipe ((wipe σ vs).set a (some x)) vs = wipe σ vs) (w2 : ∀ x : V, ((wipe σ vs).set a (some x))[a]? = some (some x))
    (w3 : ∀ x y : V, wipe ((wipe ((wipe σ vs).set a (some x)) vs1).set b (some y)) vs1 = wipe ((wipe σ vs).set a (some x)) vs1) (w4 : ∀ x y : V, ((wipe ((wipe σ vs).set a (some x)) vs1).set b (some y))[b]? = some (some y))
    (hfl : H1 fl = some (.lst xs)) (hd : Paired (DictAt H1) xs Ls) (hb : ∀ L ∈ Ls, ∀ p ∈ L, -14 ≤ p.1 ∧ p.1 < -14 + (29 : Nat)) (nD : H1 D = none)
    (q : ∀ S n, n ≤ 29 → (∀ k, S k = true ↔ ∃ L ∈ Ls, k ∈ L.map (·.1)) → Qd (upd H1 D (SetO w D S n))) :
    ∃ W : Nat → Nat → Hp → Prop, (∃ m, W 0 m (upd H1 D (SetO w D (fun _ => false) 0))) ∧ ∀ i m Hi, W i m Hi →
      ((Itl K fl).stop i Hi ∧ Qd Hi) ∨ ((Itl K fl).go i Hi ∧ ∃ Nx : Hp → Prop, (∀ Hn, Nx Hn → ∃ m', m' < m ∧ W (i + 1) m' Hn) ∧ ∀ x Hy, (Itl K fl).yld i Hi x Hy → gName a x (wipe σ vs) Hy fun σ2 H2 => wipe σ2 vs = wipe σ vs ∧
        iKeys (tVar a) σ2 H2 fun J1 H3 => ∃ W1 : Nat → Nat → Hp → Prop, (∃ m, W1 0 m H3) ∧ ∀ j k Hj, W1 j k Hj →
          (J1.stop j Hj ∧ Nx Hj) ∨ (J1.go j Hj ∧ ∃ Nx1 : Hp → Prop, (∀ Hn, Nx1 Hn → ∃ k', k' < k ∧ W1 (j + 1) k' Hn) ∧ ∀ y Hz, J1.yld j Hj y Hz → gName b y (wipe σ2 vs1) Hz fun σ3 H4 => wipe σ3 vs1 = wipe σ2 vs1 ∧
            tVar b σ3 H4 fun z H5 => ∃ (c : Int) (S : Int → Bool) (n : Nat), z = .int c ∧ H5 D = some (SetO w D S n) ∧ n + 1 < scanBound ∧ Nx1 (upd H5 D (SetO w D (fun j => S j || decide (j = c)) (if S c = true then n else n + 1))))) := by
  have keep : ∀ {S : Int → Bool} {n : Nat} {c : Addr} {o : HO}, H1 c = some o → upd H1 D (SetO w D S n) c = some o := fun e => by rw [upd_ne (ne_of_none e nD)]; exact e
  have hlen := paired_len hd
  have bound : ∀ {l : List Int} {S : Int → Bool} {n : Nat}, SetIs S n l → (∀ k ∈ l, ∃ L ∈ Ls, k ∈ L.map (·.1)) → n ≤ 29 := fun {l S n} h e => by
    rw [← h.2.1]
    refine nd_short 29 (-14) l h.1 fun k hk => ?_
    obtain ⟨L, hL, hkL⟩ := e k hk
    obtain ⟨p, hp, rfl⟩ := List.mem_map.mp hkL
    exact hb L hL p hp
  refine ⟨fun i m Hi => m = xs.length - i ∧ i ≤ xs.length ∧ ∃ S n l, Hi = upd H1 D (SetO w D S n) ∧ SetIs S n l ∧ ∀ k, k ∈ l ↔ ∃ L ∈ Ls.take i, k ∈ L.map (·.1), ⟨xs.length, rfl, Nat.zero_le _, _, 0, [], rfl, ⟨.nil, rfl, fun k => by simp⟩, fun k => by simp⟩, ?_⟩
  rintro i m Hi ⟨rfl, hi, S, n, l, rfl, hS, hl⟩
  have hfl' : SqL K (upd H1 D (SetO w D S n)) fl xs := SqL.of (keep hfl)
  by_cases c : i < xs.length
  case neg =>
    have e : i = xs.length := by omega
    subst e
    refine .inl ⟨walk_list.stops _ hfl', q S n (bound hS fun k hk => ?_) fun k => ?_⟩
    · obtain ⟨L, hL, hk2⟩ := (hl k).mp hk
      exact ⟨L, List.mem_of_mem_take hL, hk2⟩
    · rw [hS.2.2 k, hl k, hlen, List.take_length]
  refine .inr ⟨walk_list.goes i _ c hfl', fun Hn => ∃ S n l, Hn = upd H1 D (SetO w D S n) ∧ SetIs S n l ∧ ∀ k, k ∈ l ↔ ∃ L ∈ Ls.take (i + 1), k ∈ L.map (·.1), fun Hn p => ⟨xs.length - (i + 1), by omega, rfl, c, p⟩, fun x Hy y => ?_⟩
  obtain ⟨rfl, hx⟩ := walk_list.yields i _ x Hy c hfl' y
  obtain ⟨L, hL, d, od, kvs, rfl, hdd, hkv⟩ := paired_get hd hx
  refine ⟨w1 _, .ref d, w2 _, d, od, rfl, .inl ⟨kvs, keep hdd, ?_⟩⟩
  have hklen := paired_len hkv
  have et := take_more hL
  refine ⟨fun j k Hj => k = kvs.length - j ∧ j ≤ kvs.length ∧ ∃ S n l, Hj = upd H1 D (SetO w D S n) ∧ SetIs S n l ∧ ∀ k, k ∈ l ↔ (∃ L ∈ Ls.take i, k ∈ L.map (·.1)) ∨ k ∈ (L.take j).map (·.1), ⟨kvs.length, rfl, Nat.zero_le _, S, n, l, rfl, hS, fun k => by rw [hl k]; simp⟩, ?_⟩
  rintro j k Hj ⟨rfl, hj, S2, n2, l2, rfl, hS2, hl2⟩
  have hdd' : (upd H1 D (SetO w D S2 n2)) d = some (.frz od (.dK kvs)) := keep hdd
  have hn2 : n2 ≤ 29 := bound hS2 fun k hk => by
    rcases (hl2 k).mp hk with ⟨L2, h1, h2⟩ | h2
    · exact ⟨L2, List.mem_of_mem_take h1, h2⟩
    · obtain ⟨p, hp, e⟩ := List.mem_map.mp h2
      exact ⟨L, List.mem_of_getElem? hL, List.mem_map.mpr ⟨p, List.mem_of_mem_take hp, e⟩⟩
  by_cases cj : j < kvs.length
  case neg =>
    have e : j = kvs.length := by omega
    subst e
    refine .inl ⟨walk_keys.stops _ hdd', S2, n2, l2, rfl, hS2, fun k => ?_⟩
    rw [hl2 k, hklen, List.take_length, et]
    constructor
    · rintro (⟨L2, h1, h2⟩ | h2)
      · exact ⟨L2, List.mem_append_left _ h1, h2⟩
      · exact ⟨L, List.mem_append_right _ (List.mem_singleton.mpr rfl), h2⟩
    · rintro ⟨L2, h1, h2⟩
      rcases List.mem_append.mp h1 with h1 | h1
      · exact .inl ⟨L2, h1, h2⟩
      · rw [List.mem_singleton.mp h1] at h2
        exact .inr h2
  refine .inr ⟨walk_keys.goes j _ cj hdd', fun Hn => ∃ S n l, Hn = upd H1 D (SetO w D S n) ∧ SetIs S n l ∧ ∀ k, k ∈ l ↔ (∃ L ∈ Ls.take i, k ∈ L.map (·.1)) ∨ k ∈ (L.take (j + 1)).map (·.1), fun Hn p => ⟨kvs.length - (j + 1), by omega, rfl, cj, p⟩, fun y Hz yy => ?_⟩
  obtain ⟨rfl, k0, v0, hkv0, rfl⟩ := walk_keys.yields j _ y Hz cj hdd' yy
  obtain ⟨p, hp, ek, _⟩ := paired_get hkv hkv0
  have ek : k0 = Sum.inl p.1 := ek
  subst ek
  obtain ⟨l3, hS3, hl3⟩ := hS2.add p.1
  refine ⟨w3 _ _, _, w4 _ _, p.1, S2, n2, rfl, upd_same, by unfold scanBound; omega, _, _, l3, upd_upd, hS3, fun k => ?_⟩
  rw [hl3 k, hl2 k, take_more hp, List.map_append, List.mem_append, or_assoc]
  simp
end Cr
set_option Elab.async false
set_option linter.all false
set_option maxRecDepth 100000
set_option maxHeartbeats 4000000
/-! Choicerows: layers, reachable. -/
namespace Cr
open PySem PySem.Spec PyProof.Rows L2 CRM
theorem nmS_inj : ∀ {a b : Nat}, a < 4 → b < 4 → nmS a = nmS b → a = b := by
  have h : ∀ a, a < 4 → ∀ b, b < 4 → nmS a = nmS b → a = b := by decide +kernel
  exact fun {a b} ha hb e => h a ha b hb e
theorem lay_row_len {cs : List Cm} {first : Int} {i : Nat} {p : Int × List Int} (h : p ∈ layN cs first i) : p.2.length = 3 * i := (lay_leads cs first i p.1 p.2 (getS_of_mem (layN_nd cs first i) h)).1
theorem lay_state {m : Mc} (hw : Mc.wf m) {i : Nat} (hi : i ≤ 4) {p : Int × List Int} (h : p ∈ layN m.cs m.first i) : -14 ≤ p.1 ∧ p.1 < -14 + (29 : Nat) := by
  have := lay_small hw.f (fun c hc => (hw.cs c hc).gn.sm) i p.1 p.2 (getS_of_mem (layN_nd m.cs m.first i) h)
  omega
theorem DictAt.stay {H H' : Hp} (k : ∀ a xs, H a = some (.tup xs) → H' a = some (.tup xs)) (k2 : ∀ a o u, H a = some (.frz o u) → H' a = some (.frz o u)) {v : V} {L : Lay} (h : DictAt H v L) : DictAt H' v L := by
  obtain ⟨d, od, kvs, h1, h2, h3⟩ := h
  exact ⟨d, od, kvs, h1, k2 _ _ _ h2, LayAt.stay k h3⟩
section
variable [Tb] {P : Program} {w : World} {K : PySem.W.Frag} {mg : Str → Option Value} {base : Heap}
theorem Ext.dict {H H' : Hp} (e : Ext H H') {v : V} {L : Lay} (h : DictAt H v L) : DictAt H' v L := DictAt.stay (fun _ _ => e.tup) (fun _ _ _ => e.frz) h
/-! ### layers -/
def spLayers : Sp := fun vs H Q _ => ∃ (mv : V) (m : Mc), vs = [mv] ∧ McAt H mv m ∧ Mc.wf m ∧ LamX.TabS H Tb.p lamQ ∧ ∀ p xs H', Ext H H' → H' p = some (.lst xs) → Paired (DictAt H') xs m.layers → Q (.ref p) H'
theorem scLayers : FnScope ["some_machine", "tables", "found", "_", "command", "rows", "state"] ["some_machine"] (defScope sLayers) := ⟨rfl, rfl, rfl, by decide +kernel, rfl, by decide +kernel, by decide +kernel⟩
theorem ok_layers {f fT fF : Addr} {fd fdT fdF : FuncData} {tS : Tok} (F : FnP K "layers" "layers" sLayers f fd) (hrange : mg "range" = none) (hlen : mg "len" = none) (hS : mg "STATES" = some (.int 2000 tS))
    (FT : FnOk P w K mg base CX0 5 fT fdT ["generator"] spTable) (gT : mg "table" = some (.ref fT)) (kT : PySem.W.keepIn K (.ref fT) = true) (bT : Binds K fdT ["generator"] [])
    (FF : FnOk P w K mg base CX0 4 fF fdF ["some_machine", "tables", "rows"] spFurther) (gF : mg "further" = some (.ref fF)) (kF : PySem.W.keepIn K (.ref fF) = true) (bF : Binds K fdF ["some_machine", "tables", "rows"] []) :
    FnOk P w K mg base CX0 6 f fd ["some_machine"] spLayers := by
  refine F.ok scLayers (fun vs H Q E h => ?_) (fun cdv A outer s0 H vs Q E hr h => ?_)
  · obtain ⟨mv, m, rfl, _⟩ := h
    rfl
  · obtain ⟨mv, m, rfl, hm, hw, hT, q⟩ := h
    have nd := scLayers.nd
    refine ⟨_, PSs.nox (pss_cons (ps_setDc (i := 1) (own := [("command", 4)]) (g := gName 4) (tt := tYes) rfl nd rfl rfl (sw_dict rfl rfl rfl (by decide +kernel)) (pi_tup (pe_ix ix_tup (pv 0) pe_int (fun _ _ => rfl)))
        (blkOk_by (own := [("command", 4)]) (N := ["some_machine", "tables", "found", "_", "command", "rows", "state"]) (sc := defScope sLayers) (by decide +kernel)) (fun _ _ _ _ _ => pg_name (i := 4) nd rfl (Or.inl rfl)) (fun _ _ _ _ _ => pts_nil)
        (fun _ _ _ _ _ => pe_ix (r := rIxT K) ix_tup (pv 4) pe_int (fun _ _ => rfl)) (fun _ _ _ _ _ => pe_call FT hr rfl gT kT bT .nil pass0 (pa_cons (pe_ix (r := rIxT K) ix_tup (pv 4) pe_int (fun _ _ => rfl)) pa_nil)))
        (pss_cons (ps_frz (ps_set (i := 2) nd rfl (Or.inl rfl) (pe_lst (pa_cons (pe_disp (pps_cons (pe_ix ix_tup (pv 0) pe_int (fun _ _ => rfl)) (pe_tup pa_nil) pps_nil) (by rfl) (by rfl) (fun z => by cases z) (by decide)) pa_nil))))
        (pss_cons (ps_for PassesOwn.never rfl (pi_range1 rfl hrange (pa_cons (pe_ix ix_tup (pv 0) pe_int (fun _ _ => rfl)) pa_nil)) (pg_name (i := 3) nd rfl (Or.inl rfl))
        (pss_cons (ps_frz (ps_expr (pe_bm PySem.F.plainAttrs_list PySem.F.slot_list_append PySem.F.type_list_append mt_append (pv 2) (pa_cons (pe_call FF (hr.mono (by decide)) rfl gF kF bF .nil pass0 (pa_cons (pv 0) (pa_cons (pv 1) (pa_cons (pe_ix ix_list (pv 2) (pe_un un_neg pe_int) (fun _ _ => rfl)) pa_nil)))) pa_nil))))
        (pss_one (ps_if (pt_cmpR op_gt (pe_callB cr_lenO (by rfl) hlen PySem.boot_len (pa_cons (pe_sc2 (own := [("rows", 5), ("state", 6)]) (vs1 := [6]) (g := gName 5) (g1 := gName 6) rfl nd (pi_list (pv 2))
                (blkOk_by (own := [("rows", 5), ("state", 6)]) (N := ["some_machine", "tables", "found", "_", "command", "rows", "state"]) (sc := defScope sLayers) (by decide +kernel)) (by decide) (fun _ _ _ _ _ => pg_name (i := 5) nd rfl (Or.inl rfl)) (fun _ _ _ _ _ => pi_keys (pv 5)) (fun _ _ _ _ _ => pg_name (i := 6) nd rfl (Or.inl rfl)) (fun _ _ _ _ _ => pv 6)) pa_nil)) (pe_glob (v := .int 2000) rfl hS ⟨_, rfl⟩) (nomark _)) pss_never pss_nil))))
        (pss_one (ps_ret (pv 2)))))), ?_⟩
    obtain ⟨ma, t, cvs, rfl, h1, h2, h3⟩ := id hm
    refine ⟨_, rfl, _, _, _, _, rfl, rfl, SqT.of h1, at_1, t, rfl, ⟨_, SqT.of h2⟩, fun D nD => ?_⟩
    have hcl := paired_len h3
    have hfew := hw.few
    refine dc_tup (K := K) (a := t) (xs := cvs) (fun i H' => ∃ kvs, H' D = some (.dK kvs) ∧ Ext H H' ∧ kvs.length ≤ i ∧ ∀ j c, j < i → m.cs[j]? = some c → ∃ l xs, valV kvs (Sum.inr (nmS c.nm) : Key) = some (.ref l) ∧ H' l = some (.lst xs) ∧ Paired (TripAt H') xs c.gn.tab) ⟨[], upd_same, Ext.of_new nD, Nat.le_refl _, fun j c hj => absurd hj (Nat.not_lt_zero _)⟩ (fun i H' _ ⟨_, _, e, _⟩ => SqT.of (e.tup h2)) ?_ ?_
    · rintro i cv H1 hi ⟨kvs, hD, e1, hkl, htabs⟩
      obtain ⟨c, hc, hcm⟩ := paired_get h3 hi
      have hil : i < cvs.length := (List.getElem?_eq_some_iff.mp hi).1
      have hmem : c ∈ m.cs := List.mem_of_getElem? hc
      obtain ⟨ca, gu, ge, rfl, g1, g2, g3⟩ := id (e1.cm hcm)
      refine ⟨rfl, _, rfl, _, _, _, _, rfl, rfl, SqT.of g1, at_0, _, rfl, _, _, _, _, rfl, rfl, SqT.of g1, at_2, ge, c.gn, rfl, g3, (hw.cs c hmem).gn, e1.tabS hT, fun l xs H2 e2 hl hxs => ?_⟩
      have hD2 := e2.dK hD
      have tk : ∀ {a : Addr} {zs : List V} {o : HO}, H2 a = some (.tup zs) → upd H2 D o a = some (.tup zs) := fun e => by rw [upd_ne (ne_of e hD2 (by intro z; cases z))]; exact e
      have lk : ∀ {a : Addr} {zs : List V} {o : HO}, H2 a = some (.lst zs) → upd H2 D o a = some (.lst zs) := fun e => by rw [upd_ne (ne_of e hD2 (by intro z; cases z))]; exact e
      refine ⟨kvs, Sum.inr (nmS c.nm), rfl, hD2, len_lt (by omega), _, upd_same, (e1.trans e2).put nD (noext hD2 dK_ext), ?_, fun j c' hj hc' => ?_⟩
      · have : (putK kvs (Sum.inr (nmS c.nm)) (V.ref l)).length ≤ kvs.length + 1 := length_putK _ _ _
        omega
      · rw [valV_put]
        by_cases hji : j = i
        · subst hji
          have : c' = c := Option.some.inj (hc'.symm.trans hc)
          subst this
          exact ⟨l, xs, by rw [if_pos rfl], lk hl, TripAt.stay (fun _ _ => tk) hxs⟩
        · obtain ⟨l', xs', a, b, d⟩ := htabs j c' (by omega) hc'
          refine ⟨l', xs', ?_, lk (e2.lst b), TripAt.stay (fun _ _ => tk) (e2.trips d)⟩
          rw [if_neg]
          · exact a
          · intro z
            have z := nmS_inj (hw.cs c' (List.mem_of_getElem? hc')).nm (hw.cs c hmem).nm (Sum.inr.inj z)
            have a1 : (m.cs.map (·.nm))[j]? = some c.nm := by rw [List.getElem?_map, hc', ← z]; rfl
            have a2 : (m.cs.map (·.nm))[i]? = some c.nm := by rw [List.getElem?_map, hc]; rfl
            exact hji ((List.getElem?_inj (List.getElem?_eq_some_iff.mp a1).1 hw.nms).mp (a1.trans a2.symm))
    · rintro Ht ⟨tkv, hdt, et, _, htabs⟩
      have htab : TabsAt Ht D m := ⟨tkv, hdt, fun c hc => by
        obtain ⟨j, hj⟩ := List.getElem?_of_mem hc
        have := (List.getElem?_eq_some_iff.mp hj).1
        exact htabs j c (by omega) hj⟩
      intro d0 nd0
      refine ⟨_, rfl, _, _, _, _, rfl, rfl, SqT.of ((et.new nd0).tup h1), at_0, by show 0 ≤ sizeLine; decide, fun r0 nr0 => ⟨?_, [(Sum.inl m.first, .ref r0)], rfl, (by show 1 ≤ 15; decide), by show 1 ≤ sizeLine; decide, fun fl nfl => ?_⟩⟩
      · rw [upd_ne (ne_of_none upd_same nr0), upd_same]
      have nd0r : d0 ≠ r0 := ne_of_none upd_same nr0
      have hd1 : (upd (upd Ht d0 (.dK [])) r0 (.tup [])) d0 = some (.dK []) := by rw [upd_ne nd0r, upd_same]
      have eA : Ext Ht (upd (upd (upd Ht d0 (.dK [])) r0 (.tup [])) d0 (.dK [(Sum.inl m.first, .ref r0)])) := (((Ext.of_new nd0).new nr0)).put nd0 (noext hd1 dK_ext)
      have eB := eA.new (o := .lst [.ref d0]) nfl
      have nflt : Ht fl = none := eA.dom fl nfl
      have nfd : d0 ≠ fl := ne_of_none upd_same nfl
      refine ⟨d0, .dK [(Sum.inl m.first, .ref r0)], by rw [upd_ne nfd, upd_same]; rfl, trivial, fun od => ?_⟩
      have hd2 : (upd (upd (upd (upd Ht d0 (.dK [])) r0 (.tup [])) d0 (.dK [(Sum.inl m.first, .ref r0)])) fl (.lst [.ref d0])) d0 = some (.dK [(Sum.inl m.first, .ref r0)]) := by rw [upd_ne nfd, upd_same]
      have eC := eB.put (o := .frz od (.dK [(Sum.inl m.first, .ref r0)])) nd0 (noext hd2 dK_ext)
      have hr0 : (upd (upd (upd (upd (upd Ht d0 (.dK [])) r0 (.tup [])) d0 (.dK [(Sum.inl m.first, .ref r0)])) fl (.lst [.ref d0])) d0 (.frz od (.dK [(Sum.inl m.first, .ref r0)]))) r0 = some (.tup []) := by
        have nrf : r0 ≠ fl := ne_of_none (by rw [upd_ne (Ne.symm nd0r)]; exact upd_same) nfl
        rw [upd_ne (Ne.symm nd0r), upd_ne nrf, upd_ne (Ne.symm nd0r), upd_same]
      refine ⟨_, rfl, _, _, _, _, rfl, rfl, SqT.of ((et.trans eC).tup h1), at_2, (m.most : Int), rfl, by omega, by have := hw.most; omega, ?_⟩
      refine for_range (lo := 0) (n := m.most) (fun i σ H' => ∃ acc last u3 u4 u5 u6, σ = [some (.ref ma), some (.ref D), some (.ref fl), u3, u4, u5, u6] ∧ Ext Ht H' ∧ H' fl = some (.lst (acc ++ [last])) ∧ Paired (DictAt H') acc ((List.range i).map (layN m.cs m.first)) ∧ DictAt H' last (layN m.cs m.first i) ∧ i ≤ m.most) ?_ ?_ ?_
      · refine ⟨[], .ref d0, none, none, none, none, rfl, eC, by rw [upd_ne (Ne.symm nfd), upd_same]; rfl, .nil, ⟨d0, od, _, rfl, upd_same, .cons ⟨rfl, r0, rfl, hr0⟩ .nil⟩, Nat.zero_le _⟩
      · rintro i σ H1 hi ⟨acc, last, u3, u4, u5, u6, rfl, e1, hfl, hacc, hlast, hi'⟩
        have hm4 := hw.most
        obtain ⟨dr, odr, kvs, rfl, hdr, hlay⟩ := id hlast
        have hal := paired_len hacc
        rw [List.length_map, List.length_range] at hal
        refine ⟨_, rfl, .inl ⟨rfl, _, SqL.of hfl⟩, _, rfl, _, rfl, _, rfl, 1, rfl, fl, _, -1, _, rfl, rfl, SqL.of hfl, atI_last _ _, .ref ma, m, D, dr, odr, kvs, layN m.cs m.first i, rfl, (et.trans e1).mc hm, hw, e1.tabs htab, hdr, hlay, layN_nd _ _ i, (fun p hp => by rw [lay_row_len hp]; omega), Nat.le_trans (lay_length hw.f (fun c hc => (hw.cs c hc).gn.sm) (by omega)) (by decide), fun p kvs' H2 np e2 hp hlay2 => ?_⟩
        have hfl2 := e2.lst hfl
        have npf : p ≠ fl := Ne.symm (ne_of_none hfl np)
        have npt : Ht p = none := e1.dom p np
        refine ⟨fl, _, _, rfl, rfl, hfl2, len_lt (by rw [List.length_append, hal]; simp; omega), p, .dK kvs', by rw [upd_ne npf]; exact hp, trivial, fun od2 => ?_⟩
        have hp3 : (upd H2 fl (.lst (acc ++ [.ref dr] ++ [.ref p]))) p = some (.dK kvs') := by rw [upd_ne npf]; exact hp
        have e3 := ((e1.trans e2).put (o := .lst (acc ++ [.ref dr] ++ [.ref p])) nflt (noext hfl2 lst_ext)).put (o := .frz od2 (.dK kvs')) npt (noext hp3 dK_ext)
        have tk : ∀ a xs, H2 a = some (.tup xs) → (upd (upd H2 fl (.lst (acc ++ [.ref dr] ++ [.ref p]))) p (.frz od2 (.dK kvs'))) a = some (.tup xs) := fun a xs e => by
          rw [upd_ne (ne_of e hp (by intro z; cases z)), upd_ne (ne_of e hfl2 (by intro z; cases z))]; exact e
        have fk : ∀ a o u, H2 a = some (.frz o u) → (upd (upd H2 fl (.lst (acc ++ [.ref dr] ++ [.ref p]))) p (.frz od2 (.dK kvs'))) a = some (.frz o u) := fun a o u e => by
          rw [upd_ne (ne_of e hp (by intro z; cases z)), upd_ne (ne_of e hfl2 (by intro z; cases z))]; exact e
        have hfl3 : (upd (upd H2 fl (.lst (acc ++ [.ref dr] ++ [.ref p]))) p (.frz od2 (.dK kvs'))) fl = some (.lst (acc ++ [.ref dr] ++ [.ref p])) := by rw [upd_ne (Ne.symm npf), upd_same]
        have hnew : DictAt (upd (upd H2 fl (.lst (acc ++ [.ref dr] ++ [.ref p]))) p (.frz od2 (.dK kvs'))) (.ref p) (layN m.cs m.first (i + 1)) := ⟨p, od2, kvs', rfl, upd_same, LayAt.stay tk hlay2⟩
        have hall : Paired (DictAt (upd (upd H2 fl (.lst (acc ++ [.ref dr] ++ [.ref p]))) p (.frz od2 (.dK kvs')))) (acc ++ [.ref dr]) ((List.range (i + 1)).map (layN m.cs m.first)) := by
          rw [List.range_succ, List.map_append]
          exact paired_snoc (L2.Paired.mapP hacc fun _ _ z => DictAt.stay tk fk (e2.dict z)) (DictAt.stay tk fk (e2.dict hlast))
        refine ⟨_, rfl, fl, rfl, ⟨_, SqL.of hfl3⟩, fun D2 nD2 => ?_⟩
        refine sc2_dicts (w := w) (K := K) (Ls := (List.range (i + 2)).map (layN m.cs m.first)) (fun _ => rfl) (fun _ => rfl) (fun _ _ => rfl) (fun _ _ => rfl) hfl3 ?_ ?_ nD2 fun S n hn _ => ?_
        · rw [List.range_succ, List.map_append]
          exact paired_snoc hall hnew
        · intro L hL p hp
          obtain ⟨j, hj, rfl⟩ := List.mem_map.mp hL
          exact lay_state hw (by have := List.mem_range.mp hj; omega) hp
        · have eS := Ext.of_new (o := SetO w D2 S n) nD2
          refine ⟨D2, S, n, rfl, upd_same, _, _, rfl, rfl, _, rfl, ite_f (by omega) ?_⟩
          exact ⟨acc ++ [.ref dr], .ref p, _, _, _, _, rfl, e3.trans eS, eS.lst hfl3, L2.Paired.mapP hall fun _ _ => eS.dict, eS.dict hnew, hi⟩
      · rintro σ H1 ⟨acc, last, u3, u4, u5, u6, rfl, e1, hfl, hacc, hlast, hi'⟩
        refine ⟨_, rfl, q fl _ H1 (et.trans e1) hfl ?_⟩
        unfold Mc.layers
        rw [layersN_eq, List.range_succ, List.map_append]
        exact paired_snoc hacc hlast
end
end Cr
set_option Elab.async false
set_option linter.all false
set_option maxRecDepth 100000
set_option maxHeartbeats 4000000
/-! Choicerows: reachable, least_run. -/
namespace Cr
open PySem PySem.Spec PyProof.Rows L2 CRM
section
variable [Tb] {P : Program} {w : World} {K : PySem.W.Frag} {mg : Str → Option Value} {base : Heap}
theorem layers_eq (m : Mc) : m.layers = (List.range (m.most + 1)).map (layN m.cs m.first) := layersN_eq m.cs m.first m.most
theorem reach_mem {m : Mc} {k : Int} : (∃ L ∈ m.layers, k ∈ L.map (·.1)) ↔ m.reach k := by
  rw [layers_eq]
  constructor
  · rintro ⟨L, hL, hk⟩
    obtain ⟨j, hj, rfl⟩ := List.mem_map.mp hL
    exact ⟨j, by have := List.mem_range.mp hj; omega, hk⟩
  · rintro ⟨i, hi, hk⟩
    exact ⟨_, List.mem_map.mpr ⟨i, List.mem_range.mpr (by omega), rfl⟩, hk⟩
theorem lay_mem_state {m : Mc} (hw : Mc.wf m) : ∀ L ∈ m.layers, ∀ p ∈ L, -14 ≤ p.1 ∧ p.1 < -14 + (29 : Nat) := by
  intro L hL p hp
  rw [layers_eq] at hL
  obtain ⟨j, hj, rfl⟩ := List.mem_map.mp hL
  have := hw.most
  exact lay_state hw (by have := List.mem_range.mp hj; omega) hp
/-! ### reachable -/
def spReach : Sp := fun vs H Q _ => ∃ (mv : V) (m : Mc), vs = [mv] ∧ McAt H mv m ∧ Mc.wf m ∧ LamX.TabS H Tb.p lamQ ∧
  ∀ p (ns : List Int) H', Ext H H' → H' p = some (.lst (ns.map V.int)) → ns.Pairwise (· < ·) → (∀ k, k ∈ ns ↔ m.reach k) → ns.length ≤ 29 → Q (.ref p) H'
theorem scReach : FnScope ["some_machine", "rows", "state"] ["some_machine"] (defScope sReach) := ⟨rfl, rfl, rfl, by decide +kernel, rfl, by decide +kernel, by decide +kernel⟩
theorem ok_reach {f fL : Addr} {fd fdL : FuncData} (F : FnP K "reachable" "reachable" sReach f fd) (hs : mg "sorted" = none)
    (FL : FnOk P w K mg base CX0 6 fL fdL ["some_machine"] spLayers) (gL : mg "layers" = some (.ref fL)) (kL : PySem.W.keepIn K (.ref fL) = true) (bL : Binds K fdL ["some_machine"] []) : FnOk P w K mg base CX0 7 f fd ["some_machine"] spReach := by
  refine F.ok scReach (fun vs H Q E h => ?_) (fun cdv A outer s0 H vs Q E hr h => ?_)
  · obtain ⟨mv, m, rfl, _⟩ := h
    rfl
  · obtain ⟨mv, m, rfl, hm, hw, hT, q⟩ := h
    have nd := scReach.nd
    refine ⟨_, PSs.nox (pss_one (ps_ret (pe_callB (cr_sortedSet rfl) (by rfl) hs boot_sorted (pa_cons (pe_sc2 (own := [("rows", 1), ("state", 2)]) (vs1 := [2]) (g := gName 1) (g1 := gName 2) rfl nd (pi_list (pe_call FL hr rfl gL kL bL .nil pass0 (pa_cons (pv 0) pa_nil)))
                (blkOk_by (own := [("rows", 1), ("state", 2)]) (N := ["some_machine", "rows", "state"]) (sc := defScope sReach) (by decide +kernel)) (by decide) (fun _ _ _ _ _ => pg_name (i := 1) nd rfl (Or.inl rfl)) (fun _ _ _ _ _ => pi_keys (pv 1)) (fun _ _ _ _ _ => pg_name (i := 2) nd rfl (Or.inl rfl)) (fun _ _ _ _ _ => pv 2)) pa_nil)))), ?_⟩
    refine ⟨_, rfl, mv, m, rfl, hm, hw, hT, fun p xs H1 e1 hp hxs => ⟨p, rfl, ⟨_, SqL.of hp⟩, fun D nD => ?_⟩⟩
    refine sc2_dicts (w := w) (K := K) (Ls := m.layers) (fun _ => rfl) (fun _ => rfl) (fun _ _ => rfl) (fun _ _ => rfl) hp hxs (lay_mem_state hw) nD fun S n hn hS => ?_
    refine ⟨D, S, n, rfl, upd_same, by omega, fun ns l hord hmem hl nl => ?_⟩
    exact q l ns _ (((e1.new nD)).new nl) upd_same hord (fun k => (hmem k).trans ((hS k).trans reach_mem)) (by omega)
/-! ### least_run -/
def BestAt (H : Hp) (v : V) : Option (List Int) → Prop
  | none => v = .non
  | some r => ∃ a, v = .ref a ∧ RowAt H a r ∧ r.length ≤ 20
theorem Ext.best {H H' : Hp} (e : Ext H H') {v : V} {b : Option (List Int)} (h : BestAt H v b) : BestAt H' v b := by
  cases b with
  | none => exact h
  | some r =>
    obtain ⟨a, h1, h2, h3⟩ := h
    exact ⟨a, h1, e.tup h2, h3⟩
def spLeast : Sp := fun vs H Q _ => ∃ (mv iv : V) (m : Mc) (inv : Cd), vs = [mv, iv] ∧ McAt H mv m ∧ Mc.wf m ∧ CdAt H iv inv ∧ Cd.wf 1 inv ∧ LamX.TabS H Tb.p lamQ ∧ ∀ v H', Ext H H' → BestAt H' v (m.least inv) → Q v H'
theorem scLeast : FnScope ["some_machine", "invariant", "best", "found", "many", "state", "row"] ["some_machine", "invariant"] (defScope sLeastRun) := ⟨rfl, rfl, rfl, by decide +kernel, rfl, by decide +kernel, by decide +kernel⟩
theorem ok_least {f fL fH : Addr} {fd fdL fdH : FuncData} (F : FnP K "least_run" "least_run" sLeastRun f fd) (hrange : mg "range" = none) (hlen : mg "len" = none) (FH : FnP K "holds" "holds" sHolds fH fdH) (gH : mg "holds" = some (.ref fH))
    (FL : FnOk P w K mg base CX0 6 fL fdL ["some_machine"] spLayers) (gL : mg "layers" = some (.ref fL)) (kL : PySem.W.keepIn K (.ref fL) = true) (bL : Binds K fdL ["some_machine"] []) : FnOk P w K mg base CX0 7 f fd ["some_machine", "invariant"] spLeast := by
  have GH : FnOk P w K mg base CX0 1 fH fdH ["condition", "value"] spHolds := ok_holds FH gH
  have bH : Binds K fdH ["condition", "value"] [] := FH.bindsN fun _ _ _ _ _ _ us hl => match us, hl with | [_, _], _ => rfl
  refine F.ok scLeast (fun vs H Q E h => ?_) (fun cdv A outer s0 H vs Q E hr h => ?_)
  · obtain ⟨mv, iv, m, inv, rfl, _⟩ := h
    rfl
  · obtain ⟨mv, iv, m, inv, rfl, hm, hw, hi, hiw, hT, q⟩ := h
    have hu := hu_of hr
    have nd := scLeast.nd
    have two : 2 ≤ sizeLine := by decide
    refine ⟨_, PSs.nox (pss_cons (ps_set (i := 2) nd rfl (Or.inl rfl) pe_non)
        (pss_cons (ps_set (i := 3) nd rfl (Or.inl rfl) (pe_call FL hr rfl gL kL bL .nil pass0 (pa_cons (pv 0) pa_nil)))
        (pss_cons (ps_for PassesOwn.never rfl (pi_range1 rfl hrange (pa_cons (pe_callB call_len_seq (by rfl) hlen PySem.boot_len (pa_cons (pv 3) pa_nil)) pa_nil)) (pg_name (i := 4) nd rfl (Or.inl rfl))
        (pss_one (ps_for PassesOwn.never rfl (pi_keys (pe_ix ix_list (pv 3) (pv 4) (fun _ _ => rfl))) (pg_name (i := 5) nd rfl (Or.inl rfl))
          (pss_cons (ps_set (i := 6) nd rfl (Or.inl rfl) (pe_dget hu (pe_ix ix_list (pv 3) (pv 4) (fun _ _ => rfl)) (pv 5) (fun _ _ => rfl)))
        (pss_cons (ps_if (pt_cmpR op_lt (pv 4) (pe_ix ix_tup (pv 0) pe_int (fun _ _ => rfl)) (nomark _)) (pss_one (ps_set (i := 6) nd rfl (Or.inl rfl) (pe_op op_catA (pv 6) (pe_tup (pa_cons (pe_int) pa_nil))))) pss_nil)
        (pss_one (ps_if (PW.pt (pw_and (pt_not (pt_val (pe_call GH (hr.mono (by decide)) rfl gH FH.kp bH .nil pass0 (pa_cons (pv 1) (pa_cons (pv 5) pa_nil))))) (pw_and1 (PW.pt (pw_or (pt_cmpR op_isN (pv 2) pe_non (nomark _)) (pw_or1 (pt_cmpR (op_ltRow (units8 hr))
                  (pe_tup (pa_cons (pe_callB call_len_seq (by rfl) hlen PySem.boot_len (pa_cons (pv 6) pa_nil)) (pa_cons (pv 6) pa_nil))) (pe_tup (pa_cons (pe_callB call_len_seq (by rfl) hlen PySem.boot_len (pa_cons (pv 2) pa_nil)) (pa_cons (pv 2) pa_nil))) (nomark _))))))))
              (pss_one (ps_set (i := 2) nd rfl (Or.inl rfl) (pv 6))) pss_nil)))))))
        (pss_one (ps_ret (pv 2)))))), ?_⟩
    obtain ⟨ma, t, cvs, rfl, h1, h2, h3⟩ := id hm
    refine ⟨_, rfl, .ref ma, m, rfl, hm, hw, hT, fun fl xs Hl el hfl hxs => ?_⟩
    have hxl := paired_len hxs
    have hll := layers_length m
    have hm4 := hw.most
    refine ⟨_, rfl, fl, xs, rfl, .inl (SqL.of hfl), (xs.length : Int), rfl, by omega, by omega, ?_⟩
    refine for_range (lo := 0) (n := xs.length) (fun i σ H' => ∃ bv u4 u5 u6, σ = [some (.ref ma), some iv, some bv, some (.ref fl), u4, u5, u6] ∧ Ext Hl H' ∧ BestAt H' bv ((List.range i).foldl (fun b i => bestL inv m.most i b (m.layers.getD i [])) none)) ?_ ?_ ?_
    · exact ⟨.non, none, none, none, rfl, Ext.refl Hl, rfl⟩
    · rintro i σ H1 hil ⟨bv, u4, u5, u6, rfl, e1, hb⟩
      obtain ⟨dv, hdv⟩ : ∃ dv, xs[i]? = some dv := ⟨_, List.getElem?_eq_getElem hil⟩
      obtain ⟨L, hL, hdict⟩ := paired_get hxs hdv
      have hLi : L = layN m.cs m.first i := by
        have := layers_get m (i := i) (by omega)
        exact Option.some.inj (hL.symm.trans this)
      obtain ⟨d, od, kvs, rfl, hd, hlay⟩ := id hdict
      have hkl := paired_len hlay
      have hix : atI xs (0 + (i : Int)) = some (.ref d) := at_int (by omega) (by rw [show ((0 : Int) + (i : Int)).toNat = i by omega]; exact hdv)
      have hgd : m.layers.getD i [] = L := by rw [List.getD_eq_getElem?_getD, hL]; rfl
      have hnd : (L.map (·.1)).Nodup := by rw [hLi]; exact layN_nd _ _ i
      refine ⟨_, rfl, _, rfl, fl, _, _, _, rfl, rfl, SqL.of (e1.lst hfl), hix, d, od, rfl, .inl ⟨kvs, e1.frz hd, ?_⟩⟩
      refine for_it walk_keys (fun j σ H' => ∃ bv u5 u6, σ = [some (.ref ma), some iv, some bv, some (.ref fl), some (.int (0 + (i : Int))), u5, u6] ∧ Ext Hl H' ∧ BestAt H' bv ((L.take j).foldl (best1 inv m.most i) ((List.range i).foldl (fun b i => bestL inv m.most i b (m.layers.getD i [])) none))) ?_ (fun j σ H' _ ⟨_, _, _, _, e, _⟩ => e.frz hd) ?_ ?_
      · exact ⟨bv, u5, u6, rfl, e1, hb⟩
      · rintro j x σ H0 H2 hj ⟨bv, u5, u6, rfl, e2, hb⟩ ⟨rfl, k0, v0, hkv, rfl⟩
        obtain ⟨p, hp, ek, ra, ev, hra⟩ := paired_get hlay hkv
        have ek : k0 = Sum.inl p.1 := ek
        have ev : v0 = .ref ra := ev
        subst ek ev
        have hmem : p ∈ L := List.mem_of_getElem? hp
        obtain ⟨ra', hval, hra'⟩ := lay_some hlay (getS_of_mem hnd hmem)
        have hrl : p.2.length = 3 * i := by rw [hLi] at hmem; exact lay_row_len hmem
        refine ⟨_, rfl, _, rfl, fl, _, _, _, rfl, rfl, SqL.of (e2.lst hfl), hix, _, rfl, d, .ref ra', rfl, by rw [← hval]; exact dget_rd (k := Sum.inl p.1) (.inr ⟨od, e2.frz hd⟩), ?_⟩
        have et : (L.take (j + 1)).foldl (best1 inv m.most i) ((List.range i).foldl (fun b i => bestL inv m.most i b (m.layers.getD i [])) none) = best1 inv m.most i ((L.take j).foldl (best1 inv m.most i) ((List.range i).foldl (fun b i => bestL inv m.most i b (m.layers.getD i [])) none)) p := by
          rw [take_more hp, List.foldl_append]
          rfl
        rw [et]
        generalize (L.take j).foldl (best1 inv m.most i) ((List.range i).foldl (fun b i => bestL inv m.most i b (m.layers.getD i [])) none) = bb at hb ⊢
        refine ⟨_, rfl, _, rfl, _, _, _, _, rfl, rfl, SqT.of ((el.trans e2).tup h1), at_2, _, _, rfl, rfl, _, rfl, ?_⟩
        by_cases c : i < m.most
        case' pos =>
          refine ite_t (by omega) ⟨_, rfl, by show 1 ≤ sizeLine; decide, fun z nz => ?_⟩
          refine cat_rows (y := [0]) ((Ext.of_new nz).tup (e2.tup hra')) upd_same (by simp; omega) fun rb H3 e3' hrb => ?_
          have e3 : Ext H2 H3 := (Ext.of_new nz).trans e3'
          have hrow : RowAt H3 rb (ender m.most i p.2) := by unfold ender; rw [if_pos c]; exact hrb
        case' neg =>
          refine ite_f (by omega) ?_
          have e3 : Ext H2 H2 := Ext.refl H2
          have hrow : RowAt H2 ra' (ender m.most i p.2) := by unfold ender; rw [if_neg c]; exact e2.tup hra'
        all_goals
          have hel : (ender m.most i p.2).length ≤ 20 := by
            unfold ender
            split
            · rw [List.length_append]; simp; omega
            · omega
          have hb3 := e3.best hb
          refine ⟨_, rfl, _, rfl, iv, inv, p.1, rfl, (el.trans (e2.trans e3)).cd hi, hiw, _, rfl, ?_⟩
          cases ho : inv.ok p.1 with
          | true =>
            refine iteF (iteF ⟨bv, _, _, rfl, e2.trans e3, ?_⟩)
            have : best1 inv m.most i bb p = bb := by unfold best1; rw [ho]; rfl
            rw [this]
            exact hb3
          | false =>
            refine iteT ⟨_, rfl, rfl, _, rfl, ?_⟩
            cases bb with
            | none =>
              have hbv : bv = .non := hb3
              subst hbv
              have hbest : best1 inv m.most i none p = some (ender m.most i p.2) := by unfold best1; rw [ho]; rfl
              rw [hbest]
              refine iteT (iteT ⟨_, rfl, _, _, _, rfl, e2.trans e3, _, rfl, hrow, hel⟩)
            | some qr =>
              obtain ⟨qa, rfl, hqa, hql⟩ := hb3
              have hb1 : best1 inv m.most i (some qr) p = if less (ender m.most i p.2) qr = true then some (ender m.most i p.2) else some qr := by
                unfold best1
                rw [ho]
                rfl
              rw [hb1]
              refine iteF ⟨_, rfl, _, _, rfl, .inr (SqT.of hrow), _, rfl, two, fun p1 np1 => ?_⟩
              have ea : ∀ o, Ext _ (upd _ p1 o) := fun o => Ext.of_new np1
              refine ⟨_, rfl, qa, _, rfl, .inr (SqT.of ((ea _).tup hqa)), _, rfl, two, fun p2 np2 => ?_⟩
              have eb := Ext.of_new (o := .tup [.int ((qr.map V.int).length : Int), .ref qa]) np2
              refine ⟨_, qr, LenRow.of (eb.tup upd_same) (eb.tup ((ea _).tup hrow)), LenRow.of upd_same (eb.tup ((ea _).tup hqa)), _, rfl, ?_⟩
              cases hc : less (ender m.most i p.2) qr with
              | true => exact iteT ⟨_, rfl, _, _, _, rfl, (e2.trans e3).trans ((ea _).trans eb), _, rfl, ((ea _).trans eb).tup hrow, hel⟩
              | false => exact iteF ⟨_, _, _, rfl, (e2.trans e3).trans ((ea _).trans eb), qa, rfl, ((ea _).trans eb).tup hqa, hql⟩
      · rintro σ H2 ⟨bv, u5, u6, rfl, e2, hb⟩
        rw [hkl, List.take_length] at hb
        refine ⟨bv, _, _, _, rfl, e2, ?_⟩
        rw [List.range_succ, List.foldl_append]
        show BestAt H2 bv (bestL inv m.most i ((List.range i).foldl (fun b i => bestL inv m.most i b (m.layers.getD i [])) none) (m.layers.getD i []))
        rw [hgd]
        exact hb
    · rintro σ H1 ⟨bv, u4, u5, u6, rfl, e1, hb⟩
      refine ⟨_, rfl, q bv H1 (el.trans e1) ?_⟩
      unfold Mc.least
      rw [← hxl]
      exact hb
end
end Cr
set_option Elab.async false
set_option linter.all false
set_option maxRecDepth 100000
set_option maxHeartbeats 4000000
/-! Choicerows: all(test for x in a list of whole numbers), the test in its own def's reach. -/
namespace Cr
open PySem PySem.Spec PyProof.Rows L2
section
variable {X : Cx} {pins : List (Addr × Obj)} {σ : L2.St} {H1 : Hp} {s1 : Shared}
/-- the element: behind the state s1 all but the table at P stands as it did -/
def EltI (X : Cx) (s1 : Shared) (P : Addr) (scope : Scope) (x : Str) (elt : Expr) (ns : List Int) (pb : Int → Bool) : Prop :=
  ∀ (L : Addr) (code : Value) (bi : Addr) (A' : Around) (E' : Value → Shared → Prop) (n : Int) (t : Tok) (s2 : Shared) (m2 : Str → Option Value), A'.handled = none → A'.depth ≤ X.A.depth + 1 → n ∈ ns →
    s2.heap.Ns L m2 → m2 x = some (.int n t) → (∀ b o, b ≠ P → s1.heap.get? b = some o → s2.heap.get? b = some o) →
    wpAny (model X.prog X.w) A' (eval elt (genEnv scope (cloFrom X.env.cells scope.names []) L code bi X.env)) (fun y s3 => y = .bool (pb n) ∧ Keeps s2 s3) E' s2
/-- a generator that is ready -/
def RdyI (X : Cx) (pins : List (Addr × Obj)) (σ : L2.St) (H1 : Hp) (P : Addr) (ns : List Int) (pb : Int → Bool) (g : Addr) (s5 : Shared) : Prop :=
  ∃ (fp wr : List Addr) (G : Array GenState → Array GenState → Prop) (F : Nat → Value → Prop) (St : Nat → Shared → Prop),
    WalksS X.prog X.w X.A.in1 g fp wr G ns.length F St ∧ St 0 s5 ∧ TruthOf X.prog X.w X.A.in1 F (fun j => pb (ns.getD j 0)) ∧ ∀ s', Moved wr G s5 s' → ∃ H2, GxR.Tabbed P H1 H2 ∧ Inv X pins σ H2 s'
theorem all_getD (ns : List Int) (pb : Int → Bool) : (List.range ns.length).all (fun j => pb (ns.getD j 0)) = ns.all pb := by
  induction ns with
  | nil => rfl
  | cons n ns ih =>
    rw [List.length_cons, List.range_succ_eq_map, List.all_cons, List.all_map, List.all_cons, ← ih]
    rfl
/-- what is asked of the world behind the code object -/
def GoI (X : Cx) (x : Str) (elt : Expr) (scope : Scope) (code : Value) (it : Addr) (Q' : Value → Shared → Prop) (bi : Addr) (s4 : Shared) : Prop :=
  ∃ Ia fp wr n0 Pf St0 pz F, Value.ref it = .ref Ia ∧ (∀ A' : Around, A'.handled = none → Walks X.prog X.w A' Ia fp wr n0 Pf St0) ∧ St0 0 s4.heap ∧ (∀ b ∈ fp, b < s4.heap.objs.size) ∧ s4.heap.NoLimit ∧ cStatics ∉ wr ∧
    (∀ href : Heap, (∀ b o, s4.heap.get? b = some o → href.get? b = some o) →
      QuietGenD X.prog X.w (genEnv scope (cloFrom X.env.cells scope.names []) s4.heap.objs.size code bi X.env) x [] elt (List.range s4.heap.objs.size) wr Pf pz F href (X.A.depth + 1) (X.A.units + 8)) ∧
    (∀ a h5 tk gs, gs.bare = true → s4.heap.objs.size < a → h5.objs.size = a + 1 → (∀ b o, s4.heap.get? b = some o → h5.get? b = some o) →
      WalksS X.prog X.w X.A.in4 a (a :: s4.heap.objs.size :: List.range s4.heap.objs.size) (s4.heap.objs.size :: wr) (GenOnlyQ s4.gens.size) (passing pz n0 0).length
        (fun j y => ∃ i, (passing pz n0 0)[j]? = some i ∧ F i y) (GenAt X.prog X.w X.A.in4 a s4.gens.size s4.heap.objs.size (List.range s4.heap.objs.size) wr pz n0 F) →
      GenAt X.prog X.w X.A.in4 a s4.gens.size s4.heap.objs.size (List.range s4.heap.objs.size) wr pz n0 F 0 { s4 with gens := s4.gens.push gs, toks := tk, heap := h5 } →
      Q' (.ref a) { s4 with gens := s4.gens.push gs, toks := tk, heap := h5 })
theorem ints_at {its : List Value} {ns : List Int} (rv : Vals (ns.map V.int) its) {i : Nat} {v : Value} (hv : its[i]? = some v) : ∃ (n : Int) (t : Tok), ns[i]? = some n ∧ v = .int n t := by
  have hl := rv.length
  rw [List.length_map] at hl
  have hi := (List.getElem?_eq_some_iff.mp hv).1
  obtain ⟨n, hn⟩ : ∃ n, ns[i]? = some n := ⟨_, List.getElem?_eq_getElem (by omega)⟩
  obtain ⟨u, hu, ru⟩ := rv.get (show (ns.map V.int)[i]? = some (V.int n) by rw [List.getElem?_map, hn]; rfl)
  rw [hv] at hu
  cases hu
  obtain ⟨t, e⟩ := ru
  exact ⟨n, t, hn, e⟩
theorem gen_go {P yl c : Addr} {ps more : Array Value} {its : List Value} {ns : List Int} {h3 : Heap} {tk : Nat} {code : Value} {x : Str} {elt : Expr} {scope : Scope} {pb : Int → Bool} {Q' : Value → Shared → Prop} (I : Inv X pins σ H1 s1) (TB : GxR.TabB X.base X.mg c P) (hP : H1 P = some (.tbl ps))
    (hl : s1.heap.IsList yl its.toArray) (rv : Vals (ns.map V.int) its) (hx : Heap.ExtBut P (s1.heap.push { cls := .type "list_iterator", data := .fields #[.ref yl, .int 0 0] }) h3) (big : s1.heap.objs.size + 1 ≤ h3.objs.size)
    (after : h3.get? P = some { cls := .none, data := .fields (ps ++ more) }) (tri : TriplesOk (ps ++ more).toList) (hel : EltI X s1 P scope x elt ns pb) (hQ : ∀ g s5, RdyI X pins σ H1 P ns pb g s5 → Q' (.ref g) s5) :
    wpAny (model X.prog X.w) X.A (builtinsFor X.env.globals X.env.builtins) (GoI X x elt scope code s1.heap.objs.size Q') X.xe { s1 with heap := h3, toks := tk } := by
  obtain ⟨bm, ob, e1, e2, e3, e4, e5, e6, e7, e8⟩ := TB.bm
  have atP : s1.heap.get? P = some { cls := .none, data := .fields ps } := I.hok P _ hP
  have old : ∀ b o, b ≠ P → s1.heap.get? b = some o → h3.get? b = some o := fun b o nb e => hx b o nb (Heap.get?_push_of_some _ e)
  have lim0 := I.nolimit
  have csz : cStatics < s1.heap.objs.size := by obtain ⟨_, hns, _⟩ := lim0; exact hns.lt
  have csP : cStatics ≠ P := fun z => by
    obtain ⟨_, ⟨o, _, _, ho, hd, _⟩, _⟩ := lim0
    rw [z, atP] at ho
    cases ho
    cases hd
  have lim3 : h3.NoLimit := (lim0.push _).extBut hx csP
  have ylt : yl < s1.heap.objs.size := by obtain ⟨_, e, _⟩ := id hl; exact Heap.lt_size e
  have ylP : yl ≠ P := fun z => by
    obtain ⟨_, e, _, _, hd⟩ := id hl
    rw [z, atP] at e
    cases e
    cases hd
  have glob := I.mod.glob.keeps I.bk
  refine wpAny_builtinsFor (m := X.mg) (by rw [I.ok.glob]; exact (glob.push _).extBut hx TB.gP) e1 e2 (old _ _ e4 (I.bk _ _ e5)) e6 e7 e8 ?_
  have hl3 : h3.IsList yl its.toArray := by
    obtain ⟨o, e, r⟩ := id hl
    exact ⟨o, old _ _ ylP e, r⟩
  have hit3 : h3.IsListIter s1.heap.objs.size yl 0 := ⟨_, hx _ _ (fun z => by have := Heap.lt_size atP; rw [← z] at this; exact Nat.lt_irrefl _ this) (Heap.get?_push_size _ rfl), rfl, rfl⟩
  have nlen : its.toArray.size = ns.length := by
    have := rv.length
    rw [List.length_map] at this
    rw [List.size_toArray, this]
  refine ⟨s1.heap.objs.size, [s1.heap.objs.size, yl], [s1.heap.objs.size], its.toArray.size, fun i v => its.toArray[i]? = some v, fun i h => h.IsListIter s1.heap.objs.size yl i ∧ h.IsList yl its.toArray, fun _ => true, fun i y => ∃ n, ns[i]? = some n ∧ y = .bool (pb n), rfl, fun A' hA => Walks.list hA _ _ (Nat.ne_of_lt ylt) _, ⟨hit3, hl3⟩, ?_, lim3, ?_, ?_, ?_⟩
  · intro b hb
    show b < h3.objs.size
    simp only [List.mem_cons, List.not_mem_nil, or_false] at hb
    rcases hb with rfl | rfl
    · exact big
    · exact Nat.lt_of_lt_of_le (Nat.lt_succ_of_lt ylt) big
  · simp only [List.mem_cons, List.not_mem_nil, or_false]
    exact Nat.ne_of_lt csz
  · intro href hhref
    refine ⟨fun A' E' i v s2 m2 _ _ _ _ _ _ _ => ?_, fun A' E' i v s2 m2 hA hdp _ hv _ hn hm hk => ?_⟩
    · simp only [List.forIn_nil]
      exact wpAny_pure ⟨rfl, GxR.keeps_refl _⟩
    · obtain ⟨n, t, hni, rfl⟩ := ints_at rv (show its[i]? = some v by simpa using hv)
      have kp : ∀ b o, b ≠ P → s1.heap.get? b = some o → s2.heap.get? b = some o := fun b o nb e => by
        have lt := Heap.lt_size e
        have lt3 : b < h3.objs.size := Nat.lt_of_lt_of_le (Nat.lt_succ_of_lt lt) big
        refine hk b (List.mem_range.mpr lt3) (fun z => ?_) o (hhref b o (old b o nb e))
        rw [List.mem_singleton] at z
        rw [z] at lt
        exact Nat.lt_irrefl _ lt
      refine wpAny_mono (hel _ code _ A' E' n t s2 m2 hA hdp (List.mem_of_getElem? hni) hn hm kp) (fun y s3 r => ⟨⟨n, hni, r.1⟩, r.2⟩) fun _ _ z => z
  · intro g h5 tk5 gs hgb hag _ hk5 W5 hat
    simp only [GxR.passing_true, List.length_range] at W5
    rw [nlen] at W5 hat
    refine hQ g _ ⟨_, _, _, _, _, W5.in4_1, hat, ?_, fun s' hm => ?_⟩
    · intro j y sj Qj Ej hy hQj
      obtain ⟨i, hij, n, hn, rfl⟩ := hy
      obtain ⟨hj, ej⟩ := List.getElem?_eq_some_iff.mp hij
      rw [List.getElem_range] at ej
      subst ej
      have hq : Qj (pb (ns.getD j 0)) sj := hQj
      rw [List.getD_eq_getElem?_getD, hn] at hq
      exact wpAny_truthy_bool hq
    · have apart : ∀ b o, s1.heap.get? b = some o → b ∉ h3.objs.size :: [s1.heap.objs.size] := fun b o e hb => by
        have lt := Heap.lt_size e
        simp only [List.mem_cons, List.not_mem_nil, or_false] at hb
        rcases hb with rfl | rfl
        · exact absurd (Nat.lt_of_lt_of_le (Nat.lt_succ_of_lt lt) big) (Nat.lt_irrefl _)
        · exact Nat.lt_irrefl _ lt
      have J := GxR.inv_tab (more := more) (h' := s'.heap) (g' := s'.gens) (d' := s'.drawn) (t' := s'.toks) I hP (fun b o nb e => hm.heap b o (apart b o e) (hk5 b o (old b o nb e))) (hm.heap P _ (apart P _ atP) (hk5 P _ after)) (AllBare.movedS (I.bare.push hgb) hm)
      rw [GxR.sh_eta s1 s' hm.os] at J
      exact ⟨_, ⟨⟨_, upd_same, tri⟩, fun b nb => upd_ne nb⟩, J⟩
/-- all(elt for x in iter) -/
def tAllI (P : Addr) (elts : L2.St → Hp → List Int → (Int → Bool) → Prop) (te : TE) : TE := fun τ H Q => te τ H fun v Hn => ∃ (l : Addr) (ns : List Int) (pb : Int → Bool), v = .ref l ∧ Hn l = some (.lst (ns.map V.int)) ∧ GxR.TabG Hn P ∧ elts τ Hn ns pb ∧ ∀ H2, GxR.Tabbed P Hn H2 → Q (.bl (ns.all pb)) H2
theorem pe_allI {c P : Addr} {k : Nat} {elt iter : Expr} {x : Str} {px p pos gpos : Pos} {scope : Scope} {te : TE} {elts : L2.St → Hp → List Int → (Int → Bool) → Prop} (hr : Room k X.A) (hg : Gl X "all") (hm : X.mg "all" = none) (TB : GxR.TabB X.base X.mg c P) (hcode : X.env.code = .ref c)
    (kind : scope.kind = .function) (co : scope.isCoroutine = false) (nocell : ∀ y ∈ scope.names, y.2 ≠ .cell) (dot : scope.names.lookup (".0" : Str) = some .local) (loc : scope.names.lookup x = some .local)
    (free : ∀ y ∈ scope.names, y.2 = .free → X.env.scope.names.lookup y.1 = some .cell ∨ X.env.scope.names.lookup y.1 = some .free) (hi : PE X iter te)
    (hel : ∀ pins σ H s ns pb, Inv X pins σ H s → elts σ H ns pb → GxR.TabG H P → EltI X s P scope x elt ns pb) (hs : ∀ v, genFold iter X.env v = pure v := by intro _; rfl)
    (he : starEach [.GeneratorExp elt [⟨.Name x px, iter, [], 0⟩] scope gpos] X.env = (false, eval (.GeneratorExp elt [⟨.Name x px, iter, [], 0⟩] scope gpos) X.env) :: starEach [] X.env := by rfl) :
    PE X (.Call (.Name "all" p) [.GeneratorExp elt [⟨.Name x px, iter, [], 0⟩] scope gpos] [] pos) (tAllI P elts te) := by
  refine ⟨fun pins s σ H Q I h => ?_⟩
  refine wpAny_Call_Name_kw (ld_blt I hg hm (by decide +kernel : bootBuiltins "all" = some (.builtin "all")) ?_ (by decide) (by decide))
  refine PyProof.Rows.callWith_builtin1 ?_ he (by rfl)
  rw [he]
  show wpAny _ _ (spliced ((false, eval (.GeneratorExp elt [⟨.Name x px, iter, [], 0⟩] scope gpos) X.env) :: backTo pos (starEach [] X.env))) _ _ s
  apply Calls.spliced_cons
  refine wpAny_GeneratorExp_walksQD (cl := cloFrom X.env.cells scope.names []) hr.hd co (closure_ok fun y hy e => I.ok.has _ (free y hy e)) nocell dot loc kind (by have := hr.dp; omega) ?_ hs
  refine thn (hi.run pins s σ H _ I h) fun v1 s1 ⟨v, Hn, In, rv, q⟩ => ?_
  obtain ⟨l, ns, pb, rfl, hl, tab, helts, q⟩ := q
  obtain rfl : v1 = Value.ref l := rv
  obtain ⟨its, rvs, pl, hz⟩ := In.list (SqL.of hl)
  refine wpAny_pyIter_list pl.isList ?_
  have E := hel pins σ Hn s1 ns pb In helts tab
  obtain ⟨ps, hP, tri⟩ := tab
  have atP : s1.heap.get? P = some { cls := .none, data := .fields ps } := In.hok P _ hP
  have atP2 : (s1.heap.push { cls := .type "list_iterator", data := .fields #[.ref l, .int 0 0] }).get? P = some { cls := .none, data := .fields ps } := Heap.get?_push_of_some _ atP
  have head : PySem.W.CodeHd (s1.heap.push { cls := .type "list_iterator", data := .fields #[.ref l, .int 0 0] }) c P := TB.code.keeps fun b o e => Heap.get?_push_of_some _ (In.bk b o e)
  refine ⟨In.nolimit.push _, ?_⟩
  have ready : ∀ g s5, RdyI X pins σ Hn P ns pb g s5 → wpAny (model X.prog X.w) X.A (spliced (backTo pos (starEach [] X.env))) (fun vs s2 => wpAny (model X.prog X.w) X.A (call (.builtin "all") (.ref g :: vs)) (EP X pins σ Q) X.xe s2) X.xe s5 := by
    intro g s5 hG
    obtain ⟨fp, wr, G, F, St, W, at5, tr, back⟩ := hG
    apply Calls.spliced_nil
    refine call_all_walkS (W.self 0 _ _ _ at5 ⟨g, fp, wr, G, _, F, St, _, rfl, W, at5, tr, fun s' hm => ?_⟩)
    obtain ⟨H2, hT, J⟩ := back s' hm
    refine ⟨.bl _, H2, J, rfl, ?_⟩
    rw [all_getD]
    exact q H2 hT
  cases hit : codeAmong gpos ps.toList with
  | none =>
    refine wpAny_genexprCodeX hcode (head.code atP2 tri) (head.tab atP2) hit fun c' h' tk hx above below rec _ after _ => ?_
    obtain ⟨_, _, _, _, _, _, _, _, _, _, _, _, _, _, _, _, _, _, _, tri', _⟩ := rec
    have big : s1.heap.objs.size + 1 ≤ h'.objs.size := by
      have e1 := Heap.size_push s1.heap { cls := .type "list_iterator", data := .fields #[.ref l, .int 0 0] }
      have a1 : (s1.heap.push { cls := .type "list_iterator", data := .fields #[.ref l, .int 0 0] }).objs.size ≤ c' := above
      rw [e1] at a1
      exact Nat.le_trans a1 (Nat.le_of_lt below)
    exact gen_go (Q' := fun v s5 => wpAny (model X.prog X.w) X.A (spliced (backTo pos (starEach [] X.env))) (fun vs s2 => wpAny (model X.prog X.w) X.A (call (.builtin "all") (v :: vs)) (EP X pins σ Q) X.xe s2) X.xe s5) In TB hP pl.isList rvs hx big after.2 tri' E ready
  | some cv =>
    refine wpAny_genexprCode_hit hcode (head.code atP2 tri) hit ?_
    have e0 : ps = ps ++ #[] := by simp
    refine gen_go (more := #[]) (tk := s1.toks) (Q' := fun v s5 => wpAny (model X.prog X.w) X.A (spliced (backTo pos (starEach [] X.env))) (fun vs s2 => wpAny (model X.prog X.w) X.A (call (.builtin "all") (v :: vs)) (EP X pins σ Q) X.xe s2) X.xe s5) In TB hP pl.isList rvs (Heap.ExtBut.refl _ _) (by rw [Heap.size_push]; exact Nat.le_refl _) (by rw [← e0]; exact atP2) (by rw [← e0]; exact tri) E ready
end
/-! ### the element holds(invariant, state) -/
theorem CdR.stay {h h' : Heap} (k : ∀ a its, IsTup h a its → IsTup h' a its) : ∀ {c : CRM.Cd} {u : Value}, CdR h u c → CdR h' u c
  | .atm n, u, ⟨a, t, t', h1, h2⟩ => ⟨a, t, t', h1, k _ _ h2⟩
  | .dv n, u, ⟨a, t, t', h1, h2⟩ => ⟨a, t, t', h1, k _ _ h2⟩
  | .nt c, u, ⟨a, t, z, h1, h2, h3⟩ => ⟨a, t, z, h1, k _ _ h2, CdR.stay k h3⟩
  | .orr c d, u, ⟨a, t, z, y, h1, h2, h3, h4⟩ => ⟨a, t, z, y, h1, k _ _ h2, CdR.stay k h3, CdR.stay k h4⟩
section
variable {X : Cx}
theorem elt_holds {pins : List (Addr × Obj)} {σ : L2.St} {H : Hp} {s : Shared} {P f : Addr} {fd : FuncData} {k j : Nat} {scope : Scope} {inv x : Str} {iv : V} {cd : CRM.Cd} {ns : List Int} {p1 p2 p3 p4 : Pos} (I : Inv X pins σ H s) (hr : Room k X.A)
    (F : FunD X.K "holds" "holds" (defArgs sHolds) (defBody sHolds) (defScope sHolds) [] [] f fd) (gH : X.mg "holds" = some (.ref f)) (kind : scope.kind = .function) (loc : scope.names.lookup x = some .local) (hf : scope.names.lookup inv = some .free) (hh : scope.names.lookup ("holds" : Str) = some .globalImplicit)
    (nofree : ∀ y ∈ scope.names, y.2 = .free → y.1 = inv) (hc : X.env.scope.names.lookup inv = some .cell) (hN : X.N[j]? = some inv) (hσ : σ[j]? = some (some iv)) (hcd : CdAt H iv cd) (hw : Cd.wf 1 cd) (tab : GxR.TabG H P)
    (d1 : (x == ("__debug__" : Str)) = false) (d2 : (inv == ("__debug__" : Str)) = false) (d3 : (inv == ("__classdict__" : Str)) = false) :
    EltI X s P scope x (.Call (.Name "holds" p1) [.Name inv p2, .Name x p3] [] p4) ns fun n => cd.ok n := by
  intro L code bi A' E' n t s2 m2 hA hdp _ hn hm kp
  obtain ⟨ps, hP, _⟩ := tab
  have atP : s.heap.get? P = some { cls := .none, data := .fields ps } := I.hok P _ hP
  obtain ⟨m, _, hl⟩ := I.loc
  obtain ⟨u, ru, lk⟩ := hl j inv iv hN hσ (.inr (.inl hc))
  obtain ⟨cc, ec, hcell⟩ : ∃ cc, X.env.cells.lookup inv = some cc ∧ s.heap.IsCell cc (some u) := by
    rcases lk with ⟨z, _⟩ | ⟨_, z⟩
    · have z : X.env.scope.names.lookup inv = some .local := z
      rw [hc] at z
      cases z
    · exact z
  have bP : ∀ b o, X.base.get? b = some o → b ≠ P := fun b o e z => by
    have := (I.bs b o e).2
    rw [z, hP] at this
    cases this
  have kb : ∀ b o, X.base.get? b = some o → s2.heap.get? b = some o := fun b o e => kp b o (bP b o e) (I.bk b o e)
  have tupk : ∀ a its, IsTup s.heap a its → IsTup s2.heap a its := fun a its ⟨o, e, c, d⟩ => by
    refine ⟨o, kp a o (fun z => ?_) e, c, d⟩
    rw [z, atP] at e
    cases e
    cases c
  have cR : CdR s2.heap u cd := (CdR.of I.hok hcd ru).stay tupk
  have cell2 : s2.heap.IsCell cc (some u) := by
    obtain ⟨o, e, d⟩ := hcell
    refine ⟨o, kp cc o (fun z => ?_) e, d⟩
    rw [z, atP] at e
    cases e
    cases d
  have clo : (cloFrom X.env.cells scope.names []).lookup inv = some cc := by
    have mem : (inv, NameKind.free) ∈ scope.names := PySem.mem_of_lookup hf
    have h1 := cloFrom_has (cells := X.env.cells) (acc := []) mem
    obtain ⟨c2, h2⟩ := mem_lookup h1
    rcases cloFrom_mem (PySem.mem_of_lookup h2) with z | ⟨_, z⟩
    · cases z
    · rw [h2, z, ec]
      rfl
  have KX : X.K.In s2.heap := I.mod.kin.keeps kb
  have G : s2.heap.Ns mainGlobals X.mg := I.mod.glob.keeps kb
  have lim : s2.heap.NoLimit := I.mod.nolimit.keeps kb
  have bH : Binds X.K fd ["condition", "value"] [] := F.bindsN fun _ _ _ _ _ _ us hl => match us, hl with | [_, _], _ => rfl
  have hrk := wf_rnk hw
  refine wpAny_Call_Name_kw (Calls.Name_function_global kind hh (Calls.loadGlobal_global (by show s2.heap.Ns X.env.globals X.mg; rw [I.ok.glob]; exact G) gH ?_) (by decide +kernel))
  refine PySem.W.callWith_K (h₀ := s2.heap) KX F.kp ?_ rfl rfl
  refine Calls.spliced_cons (wpAny_Name (wpAny_loadName_free kind hf clo cell2 ?_ d3) d2)
  refine Calls.spliced_cons (wpAny_Name (wpAny_loadName_local kind loc hn hm ?_) d1)
  refine Calls.spliced_nil ⟨KX, wpAny_call (codeAny_mono (holds_raw F gH cd A' s2 u n t ⟨[u, .int n t], []⟩ (bH s2 [u, .int n t] KX rfl) hrk.2 (by have := hr.dp; have := hrk.1; omega) KX lim G cR) fun r s3 q => ?_)⟩
  obtain ⟨rfl, h', tk, rfl, kk⟩ := q
  exact ⟨rfl, h', tk, rfl, kk⟩
end
end Cr
set_option Elab.async false
set_option linter.all false
set_option maxRecDepth 100000
set_option maxHeartbeats 4000000
/-! Choicerows: does_fail. -/
namespace Cr
open PySem PySem.Spec PyProof.Rows L2 CRM
section
variable [Tb] {P : Program} {w : World} {K : PySem.W.Frag} {mg : Str → Option Value} {base : Heap}
def spFails (P2 : Addr) : Sp := fun vs H Q _ => ∃ (mv iv : V) (m : Mc) (inv : Cd) (r : Addr) (row : List Int), vs = [mv, iv, .ref r] ∧ McAt H mv m ∧ Mc.wf m ∧ CdAt H iv inv ∧ Cd.wf 1 inv ∧ RowAt H r row ∧ row.length ≤ 1000 ∧ GxR.TabG H P2 ∧
  ∀ H', Ext H H' → Q (.bl (m.fails inv row)) H'
theorem scFails : FnScope ["some_machine", "invariant", "row", "outcome", "states", "triple"] ["some_machine", "invariant", "row"] (defScope sDoesFail) := ⟨rfl, rfl, rfl, by decide +kernel, rfl, by decide +kernel, by decide +kernel⟩
theorem ok_fails {f fR fH c2 P2 : Addr} {fd fdR fdH : FuncData} (F : FnP K "does_fail" "does_fail" sDoesFail f fd) (hc : fd.code = .ref c2) (TB : GxR.TabB base mg c2 P2) (hne : Tb.p ≠ P2) (hlen : mg "len" = none) (hall : mg "all" = none) (FH : FnP K "holds" "holds" sHolds fH fdH) (gH : mg "holds" = some (.ref fH))
    (FR : FnOk P w K mg base CX0 11 fR fdR ["some_machine", "row"] spRunM) (gR : mg "run_machine" = some (.ref fR)) (kR : PySem.W.keepIn K (.ref fR) = true) (bR : Binds K fdR ["some_machine", "row"] []) :
    FnOk P w K mg base CX0 12 f fd ["some_machine", "invariant", "row"] (spFails P2) := by
  refine okC F hc scFails (fun vs H Q E h => ?_) (fun A outer s0 H vs Q E hr h => ?_)
  · obtain ⟨mv, iv, m, inv, r, row, rfl, _⟩ := h
    rfl
  · obtain ⟨mv, iv, m, inv, r, row, rfl, hm, hw, hi, hiw, hrow, hz, hT2, q⟩ := h
    have nd := scFails.nd
    refine ⟨_, PSs.nox (pss_cons (ps_set (i := 3) nd rfl (Or.inl rfl) (pe_call FR hr rfl gR kR bR .nil pass0 (pa_cons (pv 0) (pa_cons (pv 2) pa_nil))))
        (pss_cons (ps_if (PW.pt (pw_or (pt_cmpR op_ne (pe_ix ix_tup (pv 3) pe_int (fun _ _ => rfl)) pe_str (nomark _)) (pw_or1 (pt_cmpR op_lt (pe_ix ix_tup (pv 3) pe_int (fun _ _ => rfl)) (pe_callB call_len_seq (by rfl) hlen PySem.boot_len (pa_cons (pv 2) pa_nil)) (nomark _))))) (pss_one (ps_ret pe_bl)) pss_nil)
        (pss_cons (ps_set (i := 4) nd rfl (Or.inl rfl) (pe_op op_cat (pe_lst (pa_cons (pe_ix ix_tup (pv 0) pe_int (fun _ _ => rfl)) pa_nil)) (pe_lc (own := [("triple", 5)]) (g := gName 5) (tt := tYes) (by rfl) nd (pi_tup (pe_ix ix_tup (pv 3) pe_int (fun _ _ => rfl)))
          (blkOk_by (own := [("triple", 5)]) (N := ["some_machine", "invariant", "row", "outcome", "states", "triple"]) (sc := defScope sDoesFail) (by decide +kernel)) (fun _ _ _ _ _ => pg_name (i := 5) nd rfl (Or.inl rfl)) (fun _ _ _ _ _ => pts_nil) (fun _ _ _ _ _ => pe_ix (r := rIxT K) ix_tup (pv 5) pe_int (fun _ _ => rfl)))))
        (pss_one (ps_ret (pe_not (pe_allI (P := P2) (elts := fun τ Hn ns pb => ∃ iv cd, τ[1]? = some (some iv) ∧ CdAt Hn iv cd ∧ Cd.wf 1 cd ∧ pb = fun n => cd.ok n) hr rfl hall TB rfl rfl rfl (by decide +kernel) (by decide +kernel) (by decide +kernel) (by show ∀ y : Str × NameKind, y ∈ _ → _ → (defScope sDoesFail).names.lookup y.1 = some .cell ∨ (defScope sDoesFail).names.lookup y.1 = some .free; decide +kernel) (pv 4)
          (fun pins τ Hn s ns pb In ⟨iv, cd, h1, h2, h3, h4⟩ tab => by
            subst h4
            exact elt_holds (j := 1) (inv := "invariant") In hr FH gH rfl (by decide +kernel) (by decide +kernel) (by decide +kernel) (by decide +kernel) (by show (defScope sDoesFail).names.lookup ("invariant" : Str) = some .cell; decide +kernel) rfl h1 h2 h3 tab (by decide +kernel) (by decide +kernel) (by decide +kernel))))))))), ?_⟩
    obtain ⟨ma, t, cvs, rfl, h1, h2, h3⟩ := id hm
    refine ⟨_, rfl, _, rfl, .ref ma, m, r, row, rfl, hm, hw, hrow, hz, fun hn o H1 e1 ho => ?_, fun ts used hs p tq tvs H1 e1 hp htq htr hl4 => ?_⟩
    · obtain ⟨z, n, ho, hz'⟩ := ho
      have hb : m.fails inv row = false := by unfold Mc.fails; rw [hn]
      have hne' : (!decide (V.str z = V.str "value")) = true := by
        rw [decide_eq_false (fun z' => hz' (by injection z'))]; rfl
      refine ⟨_, rfl, _, _, _, _, rfl, rfl, SqT.of ho, at_0, rfl, _, rfl, ite_bt hne' (iteT ?_)⟩
      have := q H1 e1
      rw [hb] at this
      exact this
    · refine ⟨_, rfl, _, _, _, _, rfl, rfl, SqT.of hp, at_0, rfl, _, rfl, iteF ?_⟩
      refine ⟨_, rfl, _, _, _, _, rfl, rfl, SqT.of hp, at_2, _, rfl, r, _, rfl, .inr (SqT.of (e1.tup hrow)), _, _, rfl, rfl, _, rfl, ?_⟩
      rw [List.length_map]
      by_cases hu : (used : Int) < (row.length : Int)
      · have hb : m.fails inv row = false := by unfold Mc.fails; rw [hs]; exact if_pos (by omega)
        refine ite_t hu ?_
        have := q H1 e1
        rw [hb] at this
        exact this
      have hb : m.fails inv row = !((m.first :: ts.map fun t => t.2.2).all fun s => inv.ok s) := by unfold Mc.fails; rw [hs]; exact if_neg (by omega)
      refine ite_f hu ⟨_, rfl, _, _, _, _, rfl, rfl, SqT.of (e1.tup h1), at_0, by show 1 ≤ sizeLine; decide, fun a na => ?_⟩
      have e2 : Ext H (upd H1 a (.lst [.int m.first])) := e1.new na
      refine ⟨_, rfl, _, _, _, _, rfl, rfl, SqT.of ((Ext.of_new na).tup hp), at_1, tq, rfl, ⟨_, SqT.of ((Ext.of_new na).tup htq)⟩, fun D nD => ?_⟩
      have htl := paired_len htr
      refine lc_tup (K := K) (a := tq) (xs := tvs) (fun i H' => Ext (upd H1 a (.lst [.int m.first])) H' ∧ H' D = some (.lst ((ts.take i).map fun t => V.int t.2.2))) ⟨Ext.of_new nD, upd_same⟩ (fun i H' _ ⟨e, _⟩ => SqT.of (e.tup ((Ext.of_new na).tup htq))) ?_ ?_
      · rintro i x H2 hx ⟨e3, hD⟩
        obtain ⟨t, ht, ta, rfl, hta⟩ := paired_get htr hx
        refine ⟨rfl, _, rfl, _, _, _, _, rfl, rfl, SqT.of (e3.tup ((Ext.of_new na).tup hta)), at_2, _, hD, len_lt (by rw [List.length_map, List.length_take]; omega), e3.put nD (noext hD lst_ext), ?_⟩
        rw [upd_same, take_more ht, List.map_append]
        rfl
      · rintro H2 ⟨e3, hD⟩
        rw [htl, List.take_length] at hD
        have ha2 : H2 a = some (.lst [.int m.first]) := e3.lst upd_same
        refine ⟨a, D, _, _, rfl, rfl, ha2, hD, ?_, fun l nl => ?_⟩
        · rw [List.length_map]
          exact Nat.le_trans (show 1 + ts.length ≤ 100 by omega) (by decide)
        have e4 : Ext H (upd H2 l (.lst ([V.int m.first] ++ ts.map fun t => V.int t.2.2))) := (e2.trans e3).new nl
        refine ⟨_, rfl, l, m.first :: ts.map fun t => t.2.2, fun n => inv.ok n, rfl, ?_, e4.tab P2 hT2, ⟨iv, inv, rfl, e4.cd hi, hiw, rfl⟩, fun H3 hT => ⟨_, rfl, ?_⟩⟩
        · rw [upd_same]
          simp
        · have := q H3 (e4.trans (Ext.of_tabbed (e4.tab P2 hT2) hT hne))
          rw [hb] at this
          exact this
end
end Cr
set_option Elab.async false
set_option linter.all false
set_option maxRecDepth 100000
set_option maxHeartbeats 4000000
/-! Choicerows: the law's own small defs. -/
namespace Cr
open PySem PySem.Spec PyProof.Rows L2 CRM
section
variable [Tb] {P : Program} {w : World} {K : PySem.W.Frag} {mg : Str → Option Value} {base : Heap}
/-! ### _law_cell -/
def spCell : Sp := fun vs H Q _ => ∃ (a : Addr) (ns : List Int) (k : Int), vs = [.ref a, .int k] ∧ SqL K H a (ns.map V.int) ∧ 0 ≤ k ∧ ∀ x : Int, Q (.int x) H
theorem scCell : FnScope ["_law_script", "_law_k"] ["_law_script", "_law_k"] (defScope sLCell) := ⟨rfl, rfl, rfl, by decide +kernel, rfl, by decide +kernel, by decide +kernel⟩
theorem ok_cell {f : Addr} {fd : FuncData} (F : FnP K "_law_cell" "_law_cell" sLCell f fd) (hlen : mg "len" = none) : FnOk P w K mg base CX0 1 f fd ["_law_script", "_law_k"] (spCell (K := K)) := by
  refine F.ok scCell (fun vs H Q E h => ?_) (fun cdv A outer s0 H vs Q E hr h => ?_)
  · obtain ⟨a, ns, k, rfl, _⟩ := h
    rfl
  · obtain ⟨a, ns, k, rfl, hs, hk, q⟩ := h
    refine ⟨_, PSs.nox (pss_cons (ps_if (pt_cmpR op_lt (pv 1) (pe_callB call_len_seq (by rfl) hlen PySem.boot_len (pa_cons (pv 0) pa_nil)) (nomark _)) (pss_one (ps_ret (pe_ix ix_list (pv 0) (pv 1) (fun _ _ => rfl)))) pss_nil)
        (pss_one (ps_ret pe_int))), ?_⟩
    refine ⟨_, rfl, _, rfl, a, _, rfl, .inl hs, _, _, rfl, rfl, _, rfl, ?_⟩
    rw [List.length_map]
    by_cases c : k < (ns.length : Int)
    · obtain ⟨x, hx⟩ : ∃ x, ns[k.toNat]? = some x := ⟨_, List.getElem?_eq_getElem (by omega)⟩
      exact ite_t c ⟨_, rfl, _, rfl, a, _, k, .int x, rfl, rfl, hs, at_int hk (by rw [List.getElem?_map, hx]; rfl), q x⟩
    · exact ite_f c (q 0)
/-! ### _law_draw -/
def InR (d z : Int) : Prop := 0 ≤ d ∧ d < z
def spLDraw : Sp := fun vs H Q _ => ∃ (a s : Addr) (ns sz : List Int) (k : Int), vs = [.ref a, .int k, .ref s] ∧ SqL K H a (ns.map V.int) ∧ 0 ≤ k ∧ H s = some (.lst (sz.map V.int)) ∧ (∀ z ∈ sz, 0 < z ∧ z < 1000) ∧ sz.length ≤ 20 ∧
  ∀ p ds H', Ext H H' → H' p = some (.lst (ds.map V.int)) → Paired InR ds sz → Q (.ref p) H'
theorem scLDraw : FnScope ["_law_script", "_law_k", "_law_sizes", "_law_cell_here", "_law_drawn", "_law_size", "_law_mixed", "_law_j"] ["_law_script", "_law_k", "_law_sizes"] (defScope sLDraw) := ⟨rfl, rfl, rfl, by decide +kernel, rfl, by decide +kernel, by decide +kernel⟩
theorem ok_ldraw {f fC : Addr} {fd fdC : FuncData} (F : FnP K "_law_draw" "_law_draw" sLDraw f fd) (hrange : mg "range" = none) (hlen : mg "len" = none)
    (FC : FnOk P w K mg base CX0 1 fC fdC ["_law_script", "_law_k"] (spCell (K := K))) (gC : mg "_law_cell" = some (.ref fC)) (kC : PySem.W.keepIn K (.ref fC) = true) (bC : Binds K fdC ["_law_script", "_law_k"] []) : FnOk P w K mg base CX0 2 f fd ["_law_script", "_law_k", "_law_sizes"] (spLDraw (K := K)) := by
  refine F.ok scLDraw (fun vs H Q E h => ?_) (fun cdv A outer s0 H vs Q E hr h => ?_)
  · obtain ⟨a, s, ns, sz, k, rfl, _⟩ := h
    rfl
  · obtain ⟨a, s, ns, sz, k, rfl, hs, hk, hsz, hpos, hl20, q⟩ := h
    have nd := scLDraw.nd
    refine ⟨_, PSs.nox (pss_cons (ps_set (i := 3) nd rfl (Or.inl rfl) (pe_call FC hr rfl gC kC bC .nil pass0 (pa_cons (pv 0) (pa_cons (pv 1) pa_nil))))
        (pss_cons (ps_if (pt_cmpR op_lt (pv 3) pe_int (nomark _)) (pss_one (ps_set (i := 3) nd rfl (Or.inl rfl) (pe_un un_neg (pv 3)))) pss_nil)
        (pss_cons (ps_set (i := 4) nd rfl (Or.inl rfl) (pe_lst pa_nil))
        (pss_cons (ps_if (pt_cmpR op_ge (pv 3) (pe_op op_pow pe_int pe_int) (nomark _))
          (pss_cons (ps_set (i := 3) nd rfl (Or.inl rfl) (pe_op op_sub (pv 3) (pe_op op_pow pe_int pe_int)))
        (pss_cons (ps_for PassesOwn.never rfl (pi_list (pv 2)) (pg_name (i := 5) nd rfl (Or.inl rfl))
              (pss_cons (ps_expr (pe_bm PySem.F.plainAttrs_list PySem.F.slot_list_append PySem.F.type_list_append mt_append (pv 4) (pa_cons (pe_op op_mod (pv 3) (pv 5)) pa_nil)))
        (pss_one (ps_set (i := 3) nd rfl (Or.inl rfl) (pe_op op_fdiv (pv 3) (pv 5))))))
        (pss_one (ps_ret (pv 4))))) pss_nil)
        (pss_cons (ps_set (i := 6) nd rfl (Or.inl rfl) (pe_op op_mod (pe_op op_add (pe_op op_add (pv 3) pe_int) (pe_op op_mul pe_int (pv 1))) pe_int))
        (pss_cons (ps_for PassesOwn.never rfl (pi_range1 rfl hrange (pa_cons (pe_callB call_len_seq (by rfl) hlen PySem.boot_len (pa_cons (pv 2) pa_nil)) pa_nil)) (pg_name (i := 7) nd rfl (Or.inl rfl))
          (pss_cons (ps_set (i := 6) nd rfl (Or.inl rfl) (pe_op op_mod (pe_op op_add (pe_op op_add (pe_op op_mul (pv 6) pe_int) pe_int) (pv 7)) pe_int))
        (pss_cons (ps_set (i := 6) nd rfl (Or.inl rfl) (pe_op op_mod (pe_op op_add (pe_op op_mul (pv 6) pe_int) pe_int) pe_int))
        (pss_one (ps_expr (pe_bm PySem.F.plainAttrs_list PySem.F.slot_list_append PySem.F.type_list_append mt_append (pv 4) (pa_cons (pe_op op_mod (pe_op op_fdiv (pv 6) pe_int) (pe_ix ix_list (pv 2) (pv 7) (fun _ _ => rfl))) pa_nil)))))))
        (pss_one (ps_ret (pv 4))))))))), ?_⟩
    have cp : CPow 10 18 := ⟨by decide, by decide, by decide⟩
    have cm : ∀ x y : Int, 0 ≤ x → x < 2147483647 → CMul x y := fun x y h1 h2 => .inl ⟨by omega, by omega⟩
    refine ⟨_, rfl, _, rfl, a, ns, k, rfl, hs, hk, fun x0 => ?_⟩
    refine ⟨_, rfl, _, _, rfl, rfl, _, rfl, ?_⟩
    -- the cell is some number from here on
    have main : ∀ x : Int, tSeq (tAsg (tLst tNil) (gName 4)) (tSeq (tIfS (tTest (tOp (rI0 fun i j => .bl (decide (j ≤ i))) (tVar 3) (tOp (rI CPow fun i j => .int (i ^ j.toNat)) (tC (.int 10)) (tC (.int 18)))))
        (tSeq (tAsg (tOp (rI0 fun i j => .int (i - j)) (tVar 3) (tOp (rI CPow fun i j => .int (i ^ j.toNat)) (tC (.int 10)) (tC (.int 18)))) (gName 3)) (tSeq (tFor (iList K (tVar 2)) (gName 5) (tSeq (tDrop (tBM K "list" rAppend (tVar 4) (tCons (tOp (rI (fun _ j => 0 < j) fun i j => .int (i % j)) (tVar 3) (tVar 5)) tNil)))
            (tAsg (tOp (rI CDiv fun i j => .int (i / j)) (tVar 3) (tVar 5)) (gName 3)))) (tRet (tVar 4)))) tNext)
        (tSeq (tAsg (tOp (rI (fun _ j => 0 < j) fun i j => .int (i % j)) (tOp (rI0 fun i j => .int (i + j)) (tOp (rI0 fun i j => .int (i + j)) (tVar 3) (tC (.int 1))) (tOp (rI CMul fun i j => .int (i * j)) (tC (.int 31)) (tVar 1))) (tC (.int 2147483647))) (gName 6))
          (tSeq (tFor (iRng1 (tCons (tCB (fun xs H Q => ∃ p ys, xs = [.ref p] ∧ (SqL K H p ys ∨ SqT K H p ys) ∧ Q (.int ys.length) H) (tCons (tVar 2) tNil)) tNil)) (gName 7)
              (tSeq (tAsg (tOp (rI (fun _ j => 0 < j) fun i j => .int (i % j)) (tOp (rI0 fun i j => .int (i + j)) (tOp (rI0 fun i j => .int (i + j)) (tOp (rI CMul fun i j => .int (i * j)) (tVar 6) (tC (.int 48271))) (tC (.int 11))) (tVar 7)) (tC (.int 2147483647))) (gName 6))
                (tSeq (tAsg (tOp (rI (fun _ j => 0 < j) fun i j => .int (i % j)) (tOp (rI0 fun i j => .int (i + j)) (tOp (rI CMul fun i j => .int (i * j)) (tVar 6) (tC (.int 69621))) (tC (.int 3))) (tC (.int 2147483647))) (gName 6))
                  (tDrop (tBM K "list" rAppend (tVar 4) (tCons (tOp (rI (fun _ j => 0 < j) fun i j => .int (i % j)) (tOp (rI CDiv fun i j => .int (i / j)) (tVar 6) (tC (.int 7))) (tOp (rIxL K) (tVar 2) (tVar 7))) tNil))))))
            (tRet (tVar 4))))) { nx := fun _ H' => Q .non H', rt := Q } [some (.ref a), some (.int k), some (.ref s), some (.int x), none, none, none, none] H := by
      intro x
      refine ⟨by show 0 ≤ sizeLine; decide, fun dl ndl => ?_⟩
      have e0 : Ext H (upd H dl (.lst [])) := Ext.of_new ndl
      have nsd : s ≠ dl := ne_of_none hsz ndl
      refine ⟨_, rfl, 10, 18, rfl, rfl, cp, x, (10 : Int) ^ (18 : Int).toNat, rfl, rfl, _, rfl, ?_⟩
      by_cases c : (10 : Int) ^ (18 : Int).toNat ≤ x
      · refine ite_t c ⟨_, rfl, 10, 18, rfl, rfl, cp, x, (10 : Int) ^ (18 : Int).toNat, rfl, rfl, ?_⟩
        refine ⟨_, rfl, s, rfl, ⟨_, SqL.of (e0.lst hsz)⟩, ?_⟩
        refine for_list (K := K) (a := s) (xs := sz.map V.int) (fun i σ H' => ∃ (y : Int) (ds : List Int) (u5 : Option V), σ = [some (.ref a), some (.int k), some (.ref s), some (.int y), some (.ref dl), u5, none, none] ∧ Ext H H' ∧ H' dl = some (.lst (ds.map V.int)) ∧ Paired InR ds (sz.take i)) ?_ ?_ ?_ ?_
        · exact ⟨_, [], none, rfl, e0, upd_same, .nil⟩
        · rintro i σ H' _ ⟨y, ds, u5, rfl, e1, hd, hp⟩
          exact SqL.of (e1.lst hsz)
        · rintro i v σ H1 hv ⟨y, ds, u5, rfl, e1, hd, hp⟩
          rw [List.getElem?_map] at hv
          obtain ⟨z, hz, rfl⟩ := Option.map_eq_some_iff.mp hv
          have hpz := hpos z (List.mem_of_getElem? hz)
          have hlen := paired_len hp
          rw [List.length_take] at hlen
          refine ⟨_, rfl, .inl ⟨rfl, _, SqL.of hd⟩, _, rfl, _, rfl, y, z, rfl, rfl, hpz.1, dl, _, _, rfl, rfl, hd, len_lt (by rw [List.length_map]; omega), ?_⟩
          refine ⟨_, rfl, _, rfl, y, z, rfl, rfl, ⟨hpz.1, by omega⟩, ?_⟩
          refine ⟨_, ds ++ [y % z], _, rfl, e1.put ndl (noext hd lst_ext), by rw [upd_same, List.map_append]; rfl, ?_⟩
          rw [take_more hz]
          exact paired_snoc hp ⟨Int.emod_nonneg _ (by omega), Int.emod_lt_of_pos _ hpz.1⟩
        · rintro σ H1 ⟨y, ds, u5, rfl, e1, hd, hp⟩
          rw [List.length_map, List.take_length] at hp
          exact ⟨_, rfl, q dl ds H1 e1 hd hp⟩
      · refine ite_f c ⟨_, rfl, _, _, rfl, rfl, _, rfl, 31, k, rfl, rfl, .inl ⟨by decide, by decide⟩, _, _, rfl, rfl, _, _, rfl, rfl, (by show (0 : Int) < 2147483647; decide), ?_⟩
        refine ⟨_, rfl, s, _, rfl, .inl (SqL.of (e0.lst hsz)), ((sz.map V.int).length : Int), rfl, by omega, by rw [List.length_map]; omega, ?_⟩
        refine for_range (lo := 0) (n := (sz.map V.int).length) (fun i σ H' => ∃ (y mx : Int) (ds : List Int) (u7 : Option V), σ = [some (.ref a), some (.int k), some (.ref s), some (.int y), some (.ref dl), none, some (.int mx), u7] ∧ 0 ≤ mx ∧ mx < 2147483647 ∧ Ext H H' ∧ H' dl = some (.lst (ds.map V.int)) ∧ Paired InR ds (sz.take i)) ?_ ?_ ?_
        · exact ⟨_, _, [], none, rfl, Int.emod_nonneg _ (by decide), Int.emod_lt_of_pos _ (by decide), e0, upd_same, .nil⟩
        · rintro i σ H1 hi ⟨y, mx, ds, u7, rfl, m1, m2, e1, hd, hp⟩
          rw [List.length_map] at hi
          obtain ⟨z, hz⟩ : ∃ z, sz[i]? = some z := ⟨_, List.getElem?_eq_getElem hi⟩
          have hpz := hpos z (List.mem_of_getElem? hz)
          have hlen := paired_len hp
          rw [List.length_take] at hlen
          refine ⟨_, rfl, mx, 48271, rfl, rfl, cm _ _ m1 m2, _, _, rfl, rfl, _, rfl, _, _, rfl, rfl, _, _, rfl, rfl, (by show (0 : Int) < 2147483647; decide), ?_⟩
          refine ⟨_, rfl, _, 69621, rfl, rfl, cm _ _ (Int.emod_nonneg _ (by decide)) (Int.emod_lt_of_pos _ (by decide)), _, _, rfl, rfl, _, _, rfl, rfl, (by show (0 : Int) < 2147483647; decide), ?_⟩
          refine ⟨_, rfl, .inl ⟨rfl, _, SqL.of hd⟩, _, rfl, _, 7, rfl, rfl, ⟨by decide, by decide⟩, _, rfl, _, rfl, s, _, _, .int z, rfl, rfl, SqL.of (e1.lst hsz), at_int (by omega) (by rw [show ((0 : Int) + (i : Int)).toNat = i by omega, List.getElem?_map, hz]; rfl), _, z, rfl, rfl, hpz.1, dl, _, _, rfl, rfl, hd, len_lt (by rw [List.length_map]; omega), ?_⟩
          refine ⟨_, _, ds ++ [_], _, rfl, Int.emod_nonneg _ (by decide), Int.emod_lt_of_pos _ (by decide), e1.put ndl (noext hd lst_ext), by rw [upd_same, List.map_append]; rfl, ?_⟩
          rw [take_more hz]
          exact paired_snoc hp ⟨Int.emod_nonneg _ (by omega), Int.emod_lt_of_pos _ hpz.1⟩
        · rintro σ H1 ⟨y, mx, ds, u7, rfl, m1, m2, e1, hd, hp⟩
          rw [List.length_map, List.take_length] at hp
          exact ⟨_, rfl, q dl ds H1 e1 hd hp⟩
    by_cases c : x0 < 0
    · exact ite_t c ⟨_, rfl, _, rfl, main (-x0)⟩
    · exact ite_f c (main x0)
/-! ### _law_about -/
def spAbout : Sp := fun vs H Q _ => ∃ (p : Addr) (d0 d1 : Int), vs = [.ref p] ∧ H p = some (.lst [.int d0, .int d1]) ∧ ∀ v c H', Ext H H' → CdAt H' v c → Cd.wf 1 c → Q v H'
theorem scAbout : FnScope ["_law_digits"] ["_law_digits"] (defScope sLAbout) := ⟨rfl, rfl, rfl, by decide +kernel, rfl, by decide +kernel, by decide +kernel⟩
theorem ok_about {f : Addr} {fd : FuncData} (F : FnP K "_law_about" "_law_about" sLAbout f fd) : FnOk P w K mg base CX0 1 f fd ["_law_digits"] spAbout := by
  refine F.ok scAbout (fun vs H Q E h => ?_) (fun cdv A outer s0 H vs Q E hr h => ?_)
  · obtain ⟨p, d0, d1, rfl, _⟩ := h
    rfl
  · obtain ⟨p, d0, d1, rfl, hp, q⟩ := h
    have two : 2 ≤ sizeLine := by decide
    have three : 3 ≤ sizeLine := by decide
    refine ⟨_, PSs.nox (pss_cons (ps_if (pt_cmpR op_eq (pe_ix ix_list (pv 0) pe_int (fun _ _ => rfl)) pe_int (nomark _)) (pss_one (ps_ret (pe_tup (pa_cons (pe_str) (pa_cons (pe_op op_sub (pe_ix ix_list (pv 0) pe_int (fun _ _ => rfl)) pe_int) pa_nil))))) pss_nil)
        (pss_cons (ps_if (pt_cmpR op_eq (pe_ix ix_list (pv 0) pe_int (fun _ _ => rfl)) pe_int (nomark _)) (pss_one (ps_ret (pe_tup (pa_cons (pe_str) (pa_cons (pe_op op_add pe_int (pe_op op_mod (pe_ix ix_list (pv 0) pe_int (fun _ _ => rfl)) pe_int)) pa_nil))))) pss_nil)
        (pss_cons (ps_if (pt_cmpR op_eq (pe_ix ix_list (pv 0) pe_int (fun _ _ => rfl)) pe_int (nomark _)) (pss_one (ps_ret (pe_tup (pa_cons (pe_str) (pa_cons (pe_tup (pa_cons (pe_str) (pa_cons (pe_op op_sub (pe_ix ix_list (pv 0) pe_int (fun _ _ => rfl)) pe_int) pa_nil))) pa_nil))))) pss_nil)
        (pss_one (ps_ret (pe_tup (pa_cons (pe_str) (pa_cons (pe_tup (pa_cons (pe_str) (pa_cons (pe_op op_sub (pe_ix ix_list (pv 0) pe_int (fun _ _ => rfl)) pe_int) pa_nil))) (pa_cons (pe_tup (pa_cons (pe_str) (pa_cons (pe_int) pa_nil))) pa_nil))))))))), ?_⟩
    have h0 : atI [V.int d0, V.int d1] 0 = some (.int d0) := at_0
    have h1 : atI [V.int d0, V.int d1] 1 = some (.int d1) := at_1
    have ni : ∀ x y : Int, ¬ x = y → ¬ V.int x = V.int y := fun x y h z => h (by injection z)
    refine ⟨_, rfl, p, _, _, _, rfl, rfl, SqL.of hp, h0, rfl, _, rfl, ?_⟩
    by_cases c0 : d0 = 0
    · refine ite_t (by rw [c0]) ⟨_, rfl, p, _, _, _, rfl, rfl, SqL.of hp, h1, _, _, rfl, rfl, two, fun a na => ?_⟩
      exact q (.ref a) (.atm (d1 - 1)) _ (Ext.of_new na) ⟨a, rfl, upd_same⟩ trivial
    refine ite_f (ni _ _ c0) ⟨_, rfl, p, _, _, _, rfl, rfl, SqL.of hp, h0, rfl, _, rfl, ?_⟩
    by_cases c1 : d0 = 1
    · refine ite_t (by rw [c1]) ⟨_, rfl, p, _, _, _, rfl, rfl, SqL.of hp, h1, _, _, rfl, rfl, (by show (0 : Int) < 3; decide), _, _, rfl, rfl, two, fun a na => ?_⟩
      exact q (.ref a) (.dv (1 + d1 % 3)) _ (Ext.of_new na) ⟨a, rfl, upd_same⟩ (show 0 < 1 + d1 % 3 by have := Int.emod_nonneg d1 (show (3 : Int) ≠ 0 by decide); omega)
    refine ite_f (ni _ _ c1) ⟨_, rfl, p, _, _, _, rfl, rfl, SqL.of hp, h0, rfl, _, rfl, ?_⟩
    by_cases c2 : d0 = 2
    · refine ite_t (by rw [c2]) ⟨_, rfl, p, _, _, _, rfl, rfl, SqL.of hp, h1, _, _, rfl, rfl, two, fun b nb => ⟨two, fun a na => ?_⟩⟩
      exact q (.ref a) (.nt (.atm (d1 - 1))) _ ((Ext.of_new nb).new na) ⟨a, .ref b, rfl, upd_same, b, rfl, (Ext.of_new na).tup upd_same⟩ trivial
    refine ite_f (ni _ _ c2) ⟨_, rfl, p, _, _, _, rfl, rfl, SqL.of hp, h1, _, _, rfl, rfl, two, fun b nb => ⟨two, fun b2 nb2 => ⟨three, fun a na => ?_⟩⟩⟩
    have e2 := Ext.of_new (o := .tup [.str "divides", .int 2]) nb2
    have e3 := Ext.of_new (o := .tup [.str "or", .ref b, .ref b2]) na
    exact q (.ref a) (.orr (.atm (d1 - 2)) (.dv 2)) _ (((Ext.of_new nb).trans e2).trans e3) ⟨a, .ref b, .ref b2, rfl, upd_same, ⟨b, rfl, e3.tup (e2.tup upd_same)⟩, ⟨b2, rfl, e3.tup upd_same⟩⟩ ⟨trivial, (show (0 : Int) < 2 by decide)⟩
end
end Cr
set_option Elab.async false
set_option linter.all false
set_option maxRecDepth 100000
set_option maxHeartbeats 4000000
/-! Choicerows: _law_commands, _law_machine. -/
namespace Cr
open PySem PySem.Spec PyProof.Rows L2 CRM
theorem cut_lo (a b c d e f g h i j : V) : cutV [a, b, c, d, e, f, g, h, i, j] (some 0) (some 5) = [a, b, c, d, e] := rfl
theorem cut_hi (a b c d e f g h i j : V) : cutV [a, b, c, d, e, f, g, h, i, j] (some 5) (some 10) = [f, g, h, i, j] := rfl
theorem cut_two (a b c d e : V) : cutV [a, b, c, d, e] none (some 2) = [a, b] := rfl
theorem half_lt (i : Nat) : i < 4 → (0 + (i : Int)) / 2 = 0 ∨ (0 + (i : Int)) / 2 = 1 := by omega
theorem five_of {ds : List Int} (h : Paired InR ds [4, 5, 3, 3, 3, 4, 5, 3, 3, 3]) (i : Nat) (hi : i < 4) : ∃ e0 e1 e2 e3 e4 : Int, cutV (ds.map V.int) (some (5 * ((0 + (i : Int)) / 2))) (some (5 * ((0 + (i : Int)) / 2) + 5)) = [.int e0, .int e1, .int e2, .int e3, .int e4] ∧
    InR e0 4 ∧ InR e1 5 ∧ InR e2 3 ∧ InR e3 3 ∧ InR e4 3 := by
  obtain _ | ⟨h0, h⟩ := h
  obtain _ | ⟨h1, h⟩ := h
  obtain _ | ⟨h2, h⟩ := h
  obtain _ | ⟨h3, h⟩ := h
  obtain _ | ⟨h4, h⟩ := h
  obtain _ | ⟨h5, h⟩ := h
  obtain _ | ⟨h6, h⟩ := h
  obtain _ | ⟨h7, h⟩ := h
  obtain _ | ⟨h8, h⟩ := h
  obtain _ | ⟨h9, h⟩ := h
  cases h
  rcases half_lt i hi with e | e
  · rw [e]
    exact ⟨_, _, _, _, _, cut_lo _ _ _ _ _ _ _ _ _ _, h0, h1, h2, h3, h4⟩
  · rw [e]
    exact ⟨_, _, _, _, _, cut_hi _ _ _ _ _ _ _ _ _ _, h5, h6, h7, h8, h9⟩
theorem nm_at (i : Nat) (hi : i < 4) : atI [V.str "put", .str "get", .str "reset", .str "jump"] (0 + (i : Int)) = some (.str (nmS i)) := by
  match i, hi with
  | 0, _ => exact atI_nat (j := 0) rfl
  | 1, _ => exact atI_nat (j := 1) rfl
  | 2, _ => exact atI_nat (j := 2) rfl
  | 3, _ => exact atI_nat (j := 3) rfl
theorem ef_at (r : Int) (h0 : 0 ≤ r) (h3 : r < 3) : ∃ ef : Ef, atI [V.str "add", .str "take", .str "set"] r = some (.str (efS ef)) := by
  have h : r = 0 ∨ r = 1 ∨ r = 2 := by omega
  rcases h with rfl | rfl | rfl
  · exact ⟨.add, at_0⟩
  · exact ⟨.take, at_1⟩
  · exact ⟨.set, at_2⟩
theorem Ext.reflR [Tb] {H H' : Hp} (_ : Ext H H') : Ext H' H' := Ext.refl H'
theorem giNew {H : Hp} {a : Addr} {lo hi : Int} (_ : H a = none) : GiAt (upd H a (.tup [.str "int", .int lo, .int hi])) (.ref a) lo hi := ⟨a, rfl, upd_same⟩
section
variable [Tb] {P : Program} {w : World} {K : PySem.W.Frag} {mg : Str → Option Value} {base : Heap}
def spCmds : Sp := fun vs H Q _ => ∃ (a : Addr) (ns : List Int) (k : Int), vs = [.ref a, .int k] ∧ SqL K H a (ns.map V.int) ∧ 0 ≤ k ∧
  ∀ p us cs H', Ext H H' → H' p = some (.lst us) → CmsAt H' us cs → (∀ c ∈ cs, Cm.wf c) → cs.length ≤ 4 → (cs.map (·.nm)).Nodup → Q (.ref p) H'
theorem scCmds : FnScope ["_law_script", "_law_k", "_law_head", "_law_commands_here", "_law_j", "_law_digits", "_law_guard", "_law_argument"] ["_law_script", "_law_k"] (defScope sLComms) := ⟨rfl, rfl, rfl, by decide +kernel, rfl, by decide +kernel, by decide +kernel⟩
theorem ok_cmds {f fD fA : Addr} {fd fdD fdA : FuncData} (F : FnP K "_law_commands" "_law_commands" sLComms f fd) (hrange : mg "range" = none)
    (FD : FnOk P w K mg base CX0 2 fD fdD ["_law_script", "_law_k", "_law_sizes"] (spLDraw (K := K))) (gD : mg "_law_draw" = some (.ref fD)) (kD : PySem.W.keepIn K (.ref fD) = true) (bD : Binds K fdD ["_law_script", "_law_k", "_law_sizes"] [])
    (FA : FnOk P w K mg base CX0 1 fA fdA ["_law_digits"] spAbout) (gA : mg "_law_about" = some (.ref fA)) (kA : PySem.W.keepIn K (.ref fA) = true) (bA : Binds K fdA ["_law_digits"] []) : FnOk P w K mg base CX0 3 f fd ["_law_script", "_law_k"] (spCmds (K := K)) := by
  refine F.ok scCmds (fun vs H Q E h => ?_) (fun cdv A outer s0 H vs Q E hr h => ?_)
  · obtain ⟨a, ns, k, rfl, _⟩ := h
    rfl
  · obtain ⟨a, ns, k, rfl, hs, hk, q⟩ := h
    have nd := scCmds.nd
    have two : 2 ≤ sizeLine := by decide
    have three : 3 ≤ sizeLine := by decide
    have four : 4 ≤ sizeLine := by decide
    refine ⟨_, PSs.nox (pss_cons (ps_set (i := 2) nd rfl (Or.inl rfl) (pe_call FD hr rfl gD kD bD .nil pass0 (pa_cons (pv 0) (pa_cons (pv 1) (pa_cons (pe_lst (pa_cons (pe_int) pa_nil)) pa_nil)))))
        (pss_cons (ps_set (i := 3) nd rfl (Or.inl rfl) (pe_lst pa_nil))
        (pss_cons (ps_for PassesOwn.never rfl (pi_range1 rfl hrange (pa_cons (pe_op op_add pe_int (pe_ix ix_list (pv 2) pe_int (fun _ _ => rfl))) pa_nil)) (pg_name (i := 4) nd rfl (Or.inl rfl))
        (pss_cons (ps_set (i := 5) nd rfl (Or.inl rfl) (pe_slice sl_list (pe_call FD hr rfl gD kD bD .nil pass0 (pa_cons (pv 0) (pa_cons (pe_op op_add (pe_op op_add (pv 1) pe_int) (pe_op op_mod (pv 4) pe_int)) (pa_cons (pe_lst (pa_cons (pe_int) (pa_cons (pe_int) (pa_cons (pe_int) (pa_cons (pe_int) (pa_cons (pe_int) (pa_cons (pe_int) (pa_cons (pe_int) (pa_cons (pe_int) (pa_cons (pe_int) (pa_cons (pe_int) pa_nil))))))))))) pa_nil))))
              (po_some (pe_op op_mul pe_int (pe_op op_fdiv (pv 4) pe_int))) (po_some (pe_op op_add (pe_op op_mul pe_int (pe_op op_fdiv (pv 4) pe_int)) pe_int))))
        (pss_cons (ps_set (i := 6) nd rfl (Or.inl rfl) (pe_call FA (hr.mono (by decide)) rfl gA kA bA .nil pass0 (pa_cons (pe_slice sl_list (pv 5) po_none (po_some pe_int)) pa_nil)))
        (pss_cons (ps_if (pt_cmpR op_eq (pe_ix ix_list (pv 5) pe_int (fun _ _ => rfl)) pe_int (nomark _)) (pss_one (ps_set (i := 6) nd rfl (Or.inl rfl) (pe_tup (pa_cons (pe_str) (pa_cons (pe_op op_add pe_int (pe_ix ix_list (pv 5) pe_int (fun _ _ => rfl))) pa_nil))))) pss_nil)
        (pss_cons (ps_set (i := 7) nd rfl (Or.inl rfl) (pe_tup (pa_cons (pe_str) (pa_cons (pe_op op_sub (pe_ix ix_list (pv 5) pe_int (fun _ _ => rfl)) pe_int) (pa_cons (pe_op op_add (pe_op op_sub (pe_ix ix_list (pv 5) pe_int (fun _ _ => rfl)) pe_int) (pe_ix ix_list (pv 5) pe_int (fun _ _ => rfl))) pa_nil)))))
        (pss_cons (ps_if (pt_cmpR op_eq (pe_ix ix_list (pv 5) pe_int (fun _ _ => rfl)) pe_int (nomark _)) (pss_one (ps_set (i := 7) nd rfl (Or.inl rfl) (pe_tup (pa_cons (pe_str) (pa_cons (pv 7) (pa_cons (pe_call FA (hr.mono (by decide)) rfl gA kA bA .nil pass0 (pa_cons (pe_lst (pa_cons (pe_ix ix_list (pv 5) pe_int (fun _ _ => rfl)) (pa_cons (pe_ix ix_list (pv 5) pe_int (fun _ _ => rfl)) pa_nil))) pa_nil)) pa_nil)))))) pss_nil)
        (pss_one (ps_expr (pe_bm PySem.F.plainAttrs_list PySem.F.slot_list_append PySem.F.type_list_append mt_append (pv 3) (pa_cons (pe_tup (pa_cons (pe_ix ix_list (pe_lst (pa_cons (pe_str) (pa_cons (pe_str) (pa_cons (pe_str) (pa_cons (pe_str) pa_nil))))) (pv 4) (fun _ _ => rfl)) (pa_cons (pv 6) (pa_cons (pv 7) (pa_cons (pe_ix ix_list (pe_lst (pa_cons (pe_str) (pa_cons (pe_str) (pa_cons (pe_str) pa_nil)))) (pe_op op_mod (pe_op op_add (pe_ix ix_list (pv 5) pe_int (fun _ _ => rfl)) (pv 4)) pe_int) (fun _ _ => rfl)) pa_nil))))) pa_nil))))))))))
        (pss_one (ps_ret (pv 3)))))), ?_⟩
    refine ⟨_, rfl, _, rfl, by show 1 ≤ sizeLine; decide, fun s1 ns1 => ?_⟩
    have e1 : Ext H (upd H s1 (.lst [.int 4])) := Ext.of_new ns1
    refine ⟨a, s1, ns, [4], k, rfl, e1.seqL hs, hk, upd_same, by decide, by decide, fun hp ds H1 e2 hhp hpr => ?_⟩
    obtain _ | ⟨hd0, hpr⟩ := hpr
    cases hpr
    rename_i d0
    have eH1 := e1.trans e2
    refine ⟨by show 0 ≤ sizeLine; decide, fun cl ncl => ?_⟩
    have nclH : H cl = none := eH1.dom cl ncl
    have e3 : Ext H (upd H1 cl (.lst [])) := eH1.new ncl
    have ehp : (upd H1 cl (.lst [])) hp = some (.lst [.int d0]) := (Ext.of_new ncl).lst hhp
    refine ⟨_, rfl, hp, _, _, _, rfl, rfl, SqL.of ehp, at_0, _, _, rfl, rfl, 1 + d0, rfl, by have := hd0.1; omega, by have := hd0.2; omega, ?_⟩
    refine for_range (lo := 0) (n := (1 + d0).toNat) (fun i σ H' => ∃ us cs u4 u5 u6 u7, σ = [some (.ref a), some (.int k), some (.ref hp), some (.ref cl), u4, u5, u6, u7] ∧ Ext H H' ∧ H' cl = some (.lst us) ∧ CmsAt H' us cs ∧ (∀ c ∈ cs, Cm.wf c) ∧ cs.map (·.nm) = List.range i) ?_ ?_ ?_
    · exact ⟨[], [], none, none, none, none, rfl, e3, upd_same, .nil, (fun c h => by cases h), rfl⟩
    · rintro i σ H2 hi ⟨us, cs, u4, u5, u6, u7, rfl, e4, hcl, hus, hcw, hnm⟩
      have hi4 : i < 4 := by have := hd0.2; omega
      have hcl4 : us.length ≤ 4 := by
        have h1 := paired_len hus
        have h2 : (cs.map (·.nm)).length = i := by rw [hnm, List.length_range]
        rw [List.length_map] at h2
        omega
      refine ⟨_, rfl, _, rfl, _, _, rfl, rfl, _, rfl, _, _, rfl, rfl, (by show (0 : Int) < 2; decide), _, _, rfl, rfl, by show 10 ≤ sizeLine; decide, fun s2 ns2 => ?_⟩
      have e5 := e4.new (o := .lst [.int 4, .int 5, .int 3, .int 3, .int 3, .int 4, .int 5, .int 3, .int 3, .int 3]) ns2
      refine ⟨a, s2, ns, [4, 5, 3, 3, 3, 4, 5, 3, 3, 3], _, rfl, e5.seqL hs, by have := Int.emod_nonneg (0 + (i : Int)) (show (2 : Int) ≠ 0 by decide); omega, upd_same, by decide, by decide, fun dp ds H3 e6 hdp hds => ?_⟩
      obtain ⟨x0, x1, x2, x3, x4, hcut, r0, r1, r2, r3, r4⟩ := five_of hds i hi4
      have ncl2 : cl ≠ s2 := ne_of_none hcl ns2
      have e56 : Ext H2 H3 := (Ext.of_new ns2).trans e6
      have cdiv : CDiv (0 + (i : Int)) 2 := ⟨by decide, by decide⟩
      have cmul : CMul 5 ((0 + (i : Int)) / 2) := .inl ⟨by decide, by decide⟩
      refine ⟨_, rfl, _, 2, rfl, rfl, cdiv, 5, _, rfl, rfl, cmul, _, rfl, _, rfl, _, 2, rfl, rfl, cdiv, 5, _, rfl, rfl, cmul, _, _, rfl, rfl, _, rfl, dp, _, rfl, SqL.of hdp, fun cp ncp => ?_⟩
      rw [hcut]
      have e7 : Ext H2 (upd H3 cp (.lst [.int x0, .int x1, .int x2, .int x3, .int x4])) := e56.new ncp
      have hcp : (upd H3 cp (.lst [.int x0, .int x1, .int x2, .int x3, .int x4])) cp = some (.lst [.int x0, .int x1, .int x2, .int x3, .int x4]) := upd_same
      have i0 : atI [V.int x0, .int x1, .int x2, .int x3, .int x4] 0 = some (.int x0) := at_0
      have i1 : atI [V.int x0, .int x1, .int x2, .int x3, .int x4] 1 = some (.int x1) := at_1
      have i2 : atI [V.int x0, .int x1, .int x2, .int x3, .int x4] 2 = some (.int x2) := at_2
      have i3 : atI [V.int x0, .int x1, .int x2, .int x3, .int x4] 3 = some (.int x3) := at_3
      have i4 : atI [V.int x0, .int x1, .int x2, .int x3, .int x4] 4 = some (.int x4) := atI_nat (j := 4) rfl
      refine ⟨_, rfl, 2, rfl, cp, _, rfl, SqL.of hcp, fun gp ngp => ?_⟩
      rw [cut_two]
      refine ⟨gp, x0, x1, rfl, upd_same, fun gv gc H4 e8 hgv hgw => ?_⟩
      have e9 := (Ext.of_new ngp).trans e8
      refine ⟨_, rfl, cp, _, _, _, rfl, rfl, SqL.of (e9.lst hcp), i0, rfl, _, rfl, ?_⟩
      have ni : ∀ x y : Int, ¬ x = y → ¬ V.int x = V.int y := fun x y h z => h (by injection z)
      obtain ⟨ef, hef⟩ := ef_at ((x4 + (0 + (i : Int))) % 3) (Int.emod_nonneg _ (by decide)) (Int.emod_lt_of_pos _ (by decide))
      by_cases c3 : x0 = 3
      case' pos =>
        refine ite_t (by rw [c3]) ⟨_, rfl, cp, _, _, _, rfl, rfl, SqL.of (e9.lst hcp), i1, _, _, rfl, rfl, two, fun ga nga => ?_⟩
        have e10 : Ext H4 (upd H4 ga (.tup [.str "atmost", .int (2 + x1)])) := Ext.of_new nga
        have hG : CdAt (upd H4 ga (.tup [.str "atmost", .int (2 + x1)])) (.ref ga) (.atm (2 + x1)) := ⟨ga, rfl, upd_same⟩
        have hGw : Cd.wf 1 (.atm (2 + x1)) := trivial
      case' neg =>
        refine ite_f (ni _ _ c3) ?_
        have e10 : Ext H4 H4 := Ext.refl H4
        have hG := hgv
        have hGw := hgw
      all_goals
        have e90 := e9.trans e10
        refine ⟨_, rfl, cp, _, _, _, rfl, rfl, SqL.of (e90.lst hcp), i2, _, _, rfl, rfl, _, rfl, cp, _, _, _, rfl, rfl, SqL.of (e90.lst hcp), i2, _, _, rfl, rfl, _, rfl, cp, _, _, _, rfl, rfl, SqL.of (e90.lst hcp), i3, _, _, rfl, rfl, three, fun a7 na7 => ?_⟩
        have e11 : Ext _ (upd _ a7 (.tup [.str "int", .int (x2 - 1), .int (x2 - 1 + x3)])) := Ext.of_new na7
        have hA := giNew (lo := x2 - 1) (hi := x2 - 1 + x3) na7
        have e911 := e90.trans e11
        refine ⟨_, rfl, cp, _, _, _, rfl, rfl, SqL.of (e911.lst hcp), i4, rfl, _, rfl, ?_⟩
        by_cases c4 : x4 = 0
        refine ite_t (by rw [c4]) ⟨_, rfl, _, rfl, cp, _, _, _, rfl, rfl, SqL.of (e911.lst hcp), i2, _, rfl, cp, _, _, _, rfl, rfl, SqL.of (e911.lst hcp), i3, two, fun lp nlp => ⟨lp, x2, x3, rfl, upd_same, fun kv kc H6 e12 hkv hkw => ⟨three, fun a8 na8 => ?_⟩⟩⟩
        have e13 : Ext _ (upd H6 a8 (.tup [.str "kept", .ref a7, kv])) := ((Ext.of_new nlp).trans e12).new na8
        have hGn : GnAt _ (.ref a8) ⟨x2 - 1, x2 - 1 + x3, some kc⟩ := ⟨a8, .ref a7, kv, rfl, upd_same, e13.gi hA, (Ext.of_new na8).cd hkv⟩
        have hgnw : Gn.wf ⟨x2 - 1, x2 - 1 + x3, some kc⟩ := ⟨by have := r3.1; show x2 - 1 ≤ x2 - 1 + x3; omega, by have := r3.2; show x2 - 1 + x3 - (x2 - 1) ≤ 2; omega, ⟨by have := r2.1; show -3 ≤ x2 - 1; omega, by have := r2.2; have := r3.2; show x2 - 1 + x3 ≤ 3; omega⟩, fun c z => by cases z; exact hkw⟩
        rotate_left 1
        refine ite_f (ni _ _ c4) ?_
        have e13 := Ext.reflR e11
        have hGn : GnAt _ (.ref a7) ⟨x2 - 1, x2 - 1 + x3, none⟩ := hA
        have hgnw : Gn.wf ⟨x2 - 1, x2 - 1 + x3, none⟩ := ⟨by have := r3.1; show x2 - 1 ≤ x2 - 1 + x3; omega, by have := r3.2; show x2 - 1 + x3 - (x2 - 1) ≤ 2; omega, ⟨by have := r2.1; show -3 ≤ x2 - 1; omega, by have := r2.2; have := r3.2; show x2 - 1 + x3 ≤ 3; omega⟩, fun c z => by cases z⟩
        rotate_left 1
      all_goals
        have e913 := e911.trans e13
        have eAll := e7.trans e913
        refine ⟨_, rfl, .inl ⟨rfl, _, SqL.of (eAll.lst hcl)⟩, four, fun l4 nl4 => ?_⟩
        have e14 : Ext _ (upd _ l4 (.lst [.str "put", .str "get", .str "reset", .str "jump"])) := Ext.of_new nl4
        refine ⟨_, rfl, l4, _, _, _, rfl, rfl, SqL.of upd_same, nm_at i hi4, _, rfl, _, rfl, three, fun l3 nl3 => ?_⟩
        have e15 := e14.new (o := .lst [.str "add", .str "take", .str "set"]) nl3
        refine ⟨_, rfl, cp, _, _, _, rfl, rfl, SqL.of ((e913.trans e15).lst hcp), i4, _, rfl, _, _, rfl, rfl, _, _, rfl, rfl, (by show (0 : Int) < 3; decide), l3, _, _, _, rfl, rfl, SqL.of upd_same, hef, four, fun nc nnc => ?_⟩
        have e16 : ∀ o, Ext _ (upd _ nc o) := fun o => e15.new nnc
        have hclx := fun o => (eAll.trans (e16 o)).lst hcl
        refine ⟨cl, us, _, rfl, rfl, hclx _, len_lt (by omega), ?_⟩
        refine ⟨_, cs ++ [⟨i, _, _, ef⟩], _, _, _, _, rfl, ((e4.trans eAll).trans (e16 _)).put nclH (noext (hclx _) lst_ext), upd_same, paired_snoc (L2.Paired.mapP hus fun v c hc => CmAt.stay (fun a xs e => tup_stay (hclx _) e) ((eAll.trans (e16 _)).cm hc)) ⟨nc, _, _, rfl, tup_stay (hclx _) upd_same, CdAt.stay (fun a xs e => tup_stay (hclx _) e) ((e16 _).cd (e13.cd (e11.cd hG))), GnAt.stay (fun a xs e => tup_stay (hclx _) e) ((e16 _).gn hGn)⟩, ?_, ?_⟩
        · intro c hc
          rcases List.mem_append.mp hc with hc | hc
          · exact hcw c hc
          · rw [List.mem_singleton.mp hc]
            exact ⟨hi4, hGw, hgnw⟩
        · rw [List.map_append, hnm, List.range_succ]
          rfl
    · rintro σ H2 ⟨us, cs, u4, u5, u6, u7, rfl, e4, hcl, hus, hcw, hnm⟩
      refine ⟨_, rfl, q cl us cs H2 e4 hcl hus hcw ?_ (by rw [hnm]; exact List.nodup_range)⟩
      have h2 : (cs.map (·.nm)).length = (1 + d0).toNat := by rw [hnm, List.length_range]
      rw [List.length_map] at h2
      have := hd0.2
      omega
end
end Cr
set_option Elab.async false
set_option linter.all false
set_option maxRecDepth 100000
set_option maxHeartbeats 4000000
/-! Choicerows: _law_machine; what law needs. -/
namespace Cr
open PySem PySem.Spec PyProof.Rows L2 CRM
/-! ### a row's head -/
theorem six_nn (n d : Nat) (k : Int) (h : 0 ≤ k) : HT.sIx n d (some k) = min k.toNat n := by
  show (if k < 0 then (k + (n : Int)).toNat else min k.toNat n) = _
  rw [if_neg (by omega)]
theorem cut_upto (row : List Int) (k : Int) (h : 0 ≤ k) : cutV (row.map V.int) none (some k) = (row.take k.toNat).map V.int := by
  unfold cutV
  rw [HT.sIx_none, six_nn _ _ _ h, List.length_map, List.drop_zero, Nat.sub_zero, List.map_take]
  by_cases c : k.toNat ≤ row.length
  · rw [Nat.min_eq_left c]
  · rw [Nat.min_eq_right (by omega), List.take_of_length_le (by rw [List.length_map]; exact Nat.le_refl _), List.take_of_length_le (by rw [List.length_map]; omega)]
theorem slA_row [Tb] {K : PySem.W.Frag} {H : Hp} {a : Addr} {r : List Int} {k : Int} {Q : VK} (h : RowAt H a r) (hk : 0 ≤ k) (q : ∀ p H', Ext H H' → RowAt H' p (r.take k.toNat) → Q (.ref p) H') : rSlA K (.ref a) none (some k) H Q := by
  refine ⟨a, _, rfl, SqT.of h, fun hh => ?_, fun hh p np => ?_⟩
  · refine q a H (Ext.refl H) ?_
    rw [six_nn _ _ _ hk, List.length_map] at hh
    rw [List.take_of_length_le (by have := hh.2; omega)]
    exact h
  · refine q p _ (Ext.of_new np) ?_
    show upd H p _ p = _
    rw [upd_same, cut_upto _ _ hk]
/-! ### whole lists of ints compared -/
theorem dpAll_ints {K : PySem.W.Frag} {H : Hp} : ∀ ns : List Int, DpAll K H (ns.map V.int) (ns.map PyData.int)
  | [] => .nil
  | n :: ns => .cons (.int n) (dpAll_ints ns)
theorem eqv_ints (ns : List Int) : PyData.eqv (.list (ns.map PyData.int)) (.list (ns.map PyData.int)) = true := by
  show PyData.eqvAll (ns.map PyData.int) (ns.map PyData.int) = true
  rw [eqvAll_ints ns, decide_eq_true rfl]
theorem inV_ints (k : Int) (ns : List Int) : inV (.int k) (ns.map V.int) = decide (k ∈ ns) := by
  induction ns with
  | nil => rfl
  | cons n ns ih =>
    show (n == k || inV (.int k) (ns.map V.int)) = _
    rw [ih, Bool.eq_iff_iff]
    simp only [Bool.or_eq_true, beq_iff_eq, decide_eq_true_eq, List.mem_cons]
    constructor
    · rintro (h | h)
      · exact .inl h.symm
      · exact .inr h
    · rintro (h | h)
      · exact .inl h.symm
      · exact .inr h
theorem flat_ints (ns : List Int) : (ns.map V.int).all flatV = true := by
  rw [List.all_eq_true]
  intro x hx
  obtain ⟨n, _, rfl⟩ := List.mem_map.mp hx
  rfl
theorem sorted_self {ns ns' : List Int} (hp : ns'.Perm ns) (h' : ns'.Pairwise (· ≤ ·)) (h : ns.Pairwise (· < ·)) : ns' = ns :=
  List.Perm.eq_of_pairwise (le := fun a b : Int => a ≤ b) (fun a b _ _ h1 h2 => Int.le_antisymm h1 h2) h' (h.imp fun h => Int.le_of_lt h) hp
section
variable [Tb] {P : Program} {w : World} {K : PySem.W.Frag} {mg : Str → Option Value} {base : Heap}
def spMachine : Sp := fun vs H Q _ => ∃ (a : Addr) (ns : List Int) (k : Int), vs = [.ref a, .int k] ∧ SqL K H a (ns.map V.int) ∧ 0 ≤ k ∧
  ∀ p t us (m : Mc) (n : Nat) H', Ext H H' → H' p = some (.tup [.int m.first, .ref t, .int (n : Int)]) → H' t = some (.tup us) → CmsAt H' us m.cs → m.most = n + 1 → Mc.wf m → Q (.ref p) H'
theorem scMachine : FnScope ["_law_script", "_law_k", "_law_digits"] ["_law_script", "_law_k"] (defScope sLMach) := ⟨rfl, rfl, rfl, by decide +kernel, rfl, by decide +kernel, by decide +kernel⟩
theorem ok_machine {f fD fC : Addr} {fd fdD fdC : FuncData} (F : FnP K "_law_machine" "_law_machine" sLMach f fd) (htup : mg "tuple" = none)
    (FD : FnOk P w K mg base CX0 2 fD fdD ["_law_script", "_law_k", "_law_sizes"] (spLDraw (K := K))) (gD : mg "_law_draw" = some (.ref fD)) (kD : PySem.W.keepIn K (.ref fD) = true) (bD : Binds K fdD ["_law_script", "_law_k", "_law_sizes"] [])
    (FC : FnOk P w K mg base CX0 3 fC fdC ["_law_script", "_law_k"] (spCmds (K := K))) (gC : mg "_law_commands" = some (.ref fC)) (kC : PySem.W.keepIn K (.ref fC) = true) (bC : Binds K fdC ["_law_script", "_law_k"] []) : FnOk P w K mg base CX0 4 f fd ["_law_script", "_law_k"] (spMachine (K := K)) := by
  refine F.ok scMachine (fun vs H Q E h => ?_) (fun cdv A outer s0 H vs Q E hr h => ?_)
  · obtain ⟨a, ns, k, rfl, _⟩ := h
    rfl
  · obtain ⟨a, ns, k, rfl, hs, hk, q⟩ := h
    have nd := scMachine.nd
    refine ⟨_, PSs.nox (pss_cons (ps_set (i := 2) nd rfl (Or.inl rfl) (pe_call FD (hr.mono (by decide)) rfl gD kD bD .nil pass0 (pa_cons (pv 0) (pa_cons (pv 1) (pa_cons (pe_lst (pa_cons (pe_int) (pa_cons (pe_int) pa_nil))) pa_nil)))))
        (pss_one (ps_ret (pe_tup (pa_cons (pe_op op_sub (pe_ix ix_list (pv 2) pe_int (fun _ _ => rfl)) pe_int) (pa_cons (pe_callTy call_tuple_of (by rfl) htup boot_tuple (pa_cons (pe_call FC hr rfl gC kC bC .nil pass0 (pa_cons (pv 0) (pa_cons (pe_op op_add (pv 1) pe_int) pa_nil))) pa_nil)) (pa_cons (pe_ix ix_list (pv 2) pe_int (fun _ _ => rfl)) pa_nil))))))), ?_⟩
    refine ⟨_, rfl, _, rfl, by show 2 ≤ sizeLine; decide, fun s1 ns1 => ?_⟩
    have e1 : Ext H (upd H s1 (.lst [.int 5, .int 4])) := Ext.of_new ns1
    refine ⟨a, s1, ns, [5, 4], k, rfl, e1.seqL hs, hk, upd_same, by decide, by decide, fun hp ds H1 e2 hhp hpr => ?_⟩
    obtain _ | ⟨hd0, hpr⟩ := hpr
    obtain _ | ⟨hd1, hpr⟩ := hpr
    cases hpr
    rename_i d0 d1
    have e12 := e1.trans e2
    refine ⟨_, rfl, hp, _, _, _, rfl, rfl, SqL.of hhp, at_0, _, _, rfl, rfl, _, rfl, _, rfl, _, _, rfl, rfl, a, ns, k + 1, rfl, e12.seqL hs, by omega, fun cp us cs H2 e3 hcp hus hcw hcl hnd => ?_⟩
    refine ⟨cp, us, rfl, .inl ⟨SqL.of hcp, fun t nt => ?_⟩⟩
    have e4 : Ext H2 (upd H2 t (.tup us)) := Ext.of_new nt
    refine ⟨_, rfl, hp, _, _, _, rfl, rfl, SqL.of ((e3.trans e4).lst hhp), at_1, by show 3 ≤ sizeLine; decide, fun p np => ?_⟩
    have e5 : Ext (upd H2 t (.tup us)) (upd (upd H2 t (.tup us)) p (.tup [.int (d0 - 2), .ref t, .int d1])) := Ext.of_new np
    obtain ⟨n, rfl⟩ : ∃ n : Nat, d1 = (n : Int) := ⟨d1.toNat, by have := hd1.1; omega⟩
    refine q p t us ⟨d0 - 2, cs, n + 1⟩ n _ (e12.trans ((e3.trans e4).trans e5)) upd_same (e5.tup upd_same) ((e4.trans e5).cms hus) rfl ⟨⟨?_, ?_⟩, ⟨?_, ?_⟩, hcl, hcw, hnd⟩
    · have := hd0.1; show -2 ≤ d0 - 2; omega
    · have := hd0.2; show d0 - 2 ≤ 2; omega
    · show 1 ≤ n + 1; omega
    · have := hd1.2; show n + 1 ≤ 4; omega
end
end Cr
set_option Elab.async false
set_option linter.all false
set_option maxRecDepth 100000
set_option maxHeartbeats 4000000
/-! Choicerows: law. -/
namespace Cr
open PySem PySem.Spec PyProof.Rows L2 CRM
section
variable [Tb] {P : Program} {w : World} {K : PySem.W.Frag} {mg : Str → Option Value} {base : Heap}
theorem canLay_ints : ∀ ns : List Int, PyData.canLayAll0 (ns.map PyData.int) = true
  | [] => rfl
  | n :: ns => by
    show (PyData.canLay0 (.int n) && PyData.canLayAll0 (ns.map PyData.int)) = true
    rw [canLay_ints ns]
    rfl
theorem shaped_ints (ns : List Int) : SeqAt.shaped (.list (ns.map PyData.int)) = true := by
  show (PyData.canLayAll0 (ns.map PyData.int) && decide (PyData.depthAll (ns.map PyData.int) + 1 ≤ 64)) = true
  rw [canLay_ints, decide_eq_true (by have := depth_ints ns; omega)]
  rfl
theorem pick3 (x y z r : Int) (h0 : 0 ≤ r) (h3 : r < 3) : ∃ v : Int, atI [V.int x, .int y, .int z] r = some (.int v) := by
  have h : r = 0 ∨ r = 1 ∨ r = 2 := by omega
  rcases h with rfl | rfl | rfl
  · exact ⟨x, at_0⟩
  · exact ⟨y, at_1⟩
  · exact ⟨z, at_2⟩
def spLaw (P2 : Addr) : Sp := fun vs H Q _ => ∃ (a : Addr) (ns : List Int), vs = [.ref a] ∧ SqL K H a (ns.map V.int) ∧ ns.length ≤ 1000 ∧ LamX.TabS H Tb.p lamQ ∧ GxR.TabG H P2 ∧ ∀ H', Q (.bl true) H'
abbrev nLaw : List Str := ["_law_script", "_law_w", "_law_first", "_law_commands_here", "_law_most", "_law_some", "_law_digits", "_law_invariant", "_law_least", "_law_states", "_law_broken", "_law_j", "_law_part", "_law_k", "_law_row", "_law_told", "_law_state", "_law_triple"]
theorem scLaw : FnScope nLaw ["_law_script"] (defScope sLaw) := ⟨rfl, rfl, rfl, by decide +kernel, rfl, by decide +kernel, by decide +kernel⟩
theorem ok_law {f fM fD fA fL fR fH fU fF fI P2 : Addr} {fd fdM fdD fdA fdL fdR fdH fdU fdF fdI : FuncData} (F : FnP K "law" "law" sLaw f fd) (hrange : mg "range" = none) (hlen : mg "len" = none) (hmin : mg "min" = none) (hsort : mg "sorted" = none) (htup : mg "tuple" = none)
    (FM : FnOk P w K mg base CX0 4 fM fdM ["_law_script", "_law_k"] (spMachine (K := K))) (gM : mg "_law_machine" = some (.ref fM)) (kM : PySem.W.keepIn K (.ref fM) = true) (bM : Binds K fdM ["_law_script", "_law_k"] [])
    (FD : FnOk P w K mg base CX0 2 fD fdD ["_law_script", "_law_k", "_law_sizes"] (spLDraw (K := K))) (gD : mg "_law_draw" = some (.ref fD)) (kD : PySem.W.keepIn K (.ref fD) = true) (bD : Binds K fdD ["_law_script", "_law_k", "_law_sizes"] [])
    (FA : FnOk P w K mg base CX0 1 fA fdA ["_law_digits"] spAbout) (gA : mg "_law_about" = some (.ref fA)) (kA : PySem.W.keepIn K (.ref fA) = true) (bA : Binds K fdA ["_law_digits"] [])
    (FL : FnOk P w K mg base CX0 7 fL fdL ["some_machine", "invariant"] spLeast) (gL : mg "least_run" = some (.ref fL)) (kL : PySem.W.keepIn K (.ref fL) = true) (bL : Binds K fdL ["some_machine", "invariant"] [])
    (FR : FnOk P w K mg base CX0 7 fR fdR ["some_machine"] spReach) (gR : mg "reachable" = some (.ref fR)) (kR : PySem.W.keepIn K (.ref fR) = true) (bR : Binds K fdR ["some_machine"] [])
    (FH : FnOk P w K mg base CX0 1 fH fdH ["condition", "value"] spHolds) (gH : mg "holds" = some (.ref fH)) (kH : PySem.W.keepIn K (.ref fH) = true) (bH : Binds K fdH ["condition", "value"] [])
    (FU : FnOk P w K mg base CX0 11 fU fdU ["some_machine", "row"] spRunM) (gU : mg "run_machine" = some (.ref fU)) (kU : PySem.W.keepIn K (.ref fU) = true) (bU : Binds K fdU ["some_machine", "row"] [])
    (FF : FnOk P w K mg base CX0 12 fF fdF ["some_machine", "invariant", "row"] (spFails P2)) (gF : mg "does_fail" = some (.ref fF)) (kF : PySem.W.keepIn K (.ref fF) = true) (bF : Binds K fdF ["some_machine", "invariant", "row"] [])
    (FI : FnOk P w K mg base CX0 1 fI fdI ["row", "other"] spIsLess) (gI : mg "is_less" = some (.ref fI)) (kI : PySem.W.keepIn K (.ref fI) = true) (bI : Binds K fdI ["row", "other"] []) :
    FnOk P w K mg base CX0 13 f fd ["_law_script"] (spLaw (K := K) P2) := by
  refine F.ok scLaw (fun vs H Q E h => ?_) (fun cdv A outer s0 H vs Q E hr h => ?_)
  · obtain ⟨a, ns, rfl, _⟩ := h
    rfl
  · obtain ⟨a, ns, rfl, hs, hlen63, hT, hG, q⟩ := h
    have nd := scLaw.nd
    refine ⟨_, PSs.nox (pss_cons (ps_for PassesOwn.never rfl (pi_range1 rfl hrange (pa_cons (pe_callB (call_min2 rfl) (by rfl) hmin boot_min (pa_cons (pe_int) (pa_cons (pe_op op_add pe_int (pe_op op_fdiv (pe_callB call_len_seq (by rfl) hlen PySem.boot_len (pa_cons (pv 0) pa_nil)) pe_int)) pa_nil))) pa_nil)) (pg_name (i := 1) nd rfl (Or.inl rfl))
        (pss_cons (ps_asg (pe_call FM (hr.mono (by decide)) rfl gM kM bM .nil pass0 (pa_cons (pv 0) (pa_cons (pe_op op_mul pe_int (pv 1)) pa_nil))) (pg_tup rfl (pgs_cons (pg_name (i := 2) nd rfl (Or.inl rfl)) (pgs_cons (pg_name (i := 3) nd rfl (Or.inl rfl)) (pgs_cons (pg_name (i := 4) nd rfl (Or.inl rfl)) pgs_nil)))))
        (pss_cons (ps_set (i := 5) nd rfl (Or.inl rfl) (pe_tup (pa_cons (pv 2) (pa_cons (pv 3) (pa_cons (pe_op op_add (pv 4) pe_int) pa_nil)))))
        (pss_cons (ps_set (i := 6) nd rfl (Or.inl rfl) (pe_call FD (hr.mono (by decide)) rfl gD kD bD .nil pass0 (pa_cons (pv 0) (pa_cons (pe_op op_add (pe_op op_mul pe_int (pv 1)) pe_int) (pa_cons (pe_lst (pa_cons (pe_int) (pa_cons (pe_int) pa_nil))) pa_nil)))))
        (pss_cons (ps_set (i := 7) nd rfl (Or.inr rfl) (pe_call FA (hr.mono (by decide)) rfl gA kA bA .nil pass0 (pa_cons (pv 6) pa_nil)))
        (pss_cons (ps_set (i := 8) nd rfl (Or.inl rfl) (pe_call FL (hr.mono (by decide)) rfl gL kL bL .nil pass0 (pa_cons (pv 5) (pa_cons (pv 7) pa_nil))))
        (pss_cons (ps_set (i := 9) nd rfl (Or.inr rfl) (pe_call FR (hr.mono (by decide)) rfl gR kR bR .nil pass0 (pa_cons (pv 5) pa_nil)))
        (pss_cons (ps_setLc (i := 10) (own := [("_law_state", 16)]) (g := gName 16) rfl nd rfl rfl (sw_true rfl rfl rfl (by decide +kernel)) (pi_list (pv 9))
              (blkOk_by (own := [("_law_state", 16)]) (N := nLaw) (sc := defScope sLaw) (by decide +kernel)) (fun _ _ _ _ _ => pg_name (i := 16) nd rfl (Or.inl rfl))
              (fun _ _ _ _ _ => pts_one (pt_not (pt_val (pe_call FH (hr.mono (by decide)) rfl gH kH bH .nil pass0 (pa_cons (pv 7) (pa_cons (pv 16) pa_nil)))))) (fun _ _ _ _ _ => pv 16))
        (pss_cons (ps_if (PW.pt (pw_or (pt_cmpR op_ne (pe_cmpR op_isN (pv 8) pe_non (nomark _)) (pe_cmpR op_eq (pe_callB call_len_seq (by rfl) hlen PySem.boot_len (pa_cons (pv 10) pa_nil)) pe_int (nomark _)) (nomark _))
              (pw_or1 (PW.pt (pw_and (pt_cmpR op_notN (pv 8) pe_non (nomark _)) (pw_and1 (pt_not (pt_val (pe_call FF hr rfl gF kF bF .nil pass0 (pa_cons (pv 5) (pa_cons (pv 7) (pa_cons (pv 8) pa_nil)))))))))))) (pss_one (ps_ret pe_bl)) pss_nil)
        (pss_cons (ps_if (PW.pt (pw_or (pt_cmpR op_notIn_seq (pv 2) (pv 9) rfl) (pw_or1 (pt_cmpR (op_neD hr.units) (pv 9) (pe_callB cr_sorted (by rfl) hsort boot_sorted (pa_cons (pv 9) pa_nil)) (nomark _))))) (pss_one (ps_ret pe_bl)) pss_nil)
        (pss_one (ps_for PassesOwn.never rfl (pi_range1 rfl hrange (pa_cons (pe_int) pa_nil)) (pg_name (i := 11) nd rfl (Or.inl rfl))
            (pss_cons (ps_set (i := 12) nd rfl (Or.inr rfl) (pe_call FD (hr.mono (by decide)) rfl gD kD bD .nil pass0 (pa_cons (pv 0) (pa_cons (pe_op op_add (pe_op op_add (pe_op op_mul pe_int (pv 1)) pe_int) (pv 11)) (pa_cons (pe_lst (pa_cons (pe_int) (pa_cons (pe_int) (pa_cons (pe_int) (pa_cons (pe_int) (pa_cons (pe_int) (pa_cons (pe_int) (pa_cons (pe_int) (pa_cons (pe_int) (pa_cons (pe_int) (pa_cons (pe_int) (pa_cons (pe_int) (pa_cons (pe_int) pa_nil))))))))))))) pa_nil)))))
        (pss_cons (ps_set (i := 14) nd rfl (Or.inl rfl) (pe_callTy call_tuple_of (by rfl) htup boot_tuple (pa_cons (pe_lc (own := [("_law_k", 13)]) (g := gName 13) (tt := tYes) rfl nd (pi_range1 rfl hrange (pa_cons (pe_int) pa_nil))
                  (blkOk_by (own := [("_law_k", 13)]) (N := nLaw) (sc := defScope sLaw) (by decide +kernel)) (fun _ _ _ _ _ => pg_name (i := 13) nd rfl (Or.inl rfl)) (fun _ _ _ _ _ => pts_nil)
                  (fun _ _ _ _ _ => pe_ix (r := rIxL K) ix_list (pe_lst (pa_cons (pe_callB (call_min2 rfl) (by rfl) hmin boot_min (pa_cons (pe_int) (pa_cons (pe_ix (r := rIxL K) ix_list (pv 12) (pv 13) (fun _ _ => rfl)) pa_nil))) (pa_cons (pe_ix (r := rIxL K) ix_list (pv 12) (pv 13) (fun _ _ => rfl)) (pa_cons (pe_ix (r := rIxL K) ix_list (pv 12) (pv 13) (fun _ _ => rfl)) pa_nil)))) (pe_op op_mod (pv 13) pe_int) (fun _ _ => rfl))) pa_nil)))
        (pss_one (ps_for PassesOwn.never rfl (pi_range1 rfl hrange (pa_cons (pe_int) pa_nil)) (pg_name (i := 13) nd rfl (Or.inl rfl))
                (pss_cons (ps_set (i := 15) nd rfl (Or.inl rfl) (pe_call FU (hr.mono (by decide)) rfl gU kU bU .nil pass0 (pa_cons (pv 5) (pa_cons (pe_slice sl_tupA (pv 14) po_none (po_some (pv 13))) pa_nil))))
        (pss_one (ps_if (pt_cmpR op_eq (pe_ix ix_tup (pv 15) pe_int (fun _ _ => rfl)) pe_str (nomark _))
                    (pss_cons (ps_if (pt_cmpR op_gt (pe_callB call_len_seq (by rfl) hlen PySem.boot_len (pa_cons (pe_lc (own := [("_law_triple", 17)]) (g := gName 17) rfl nd (pi_tup (pe_ix ix_tup (pv 15) pe_int (fun _ _ => rfl)))
                          (blkOk_by (own := [("_law_triple", 17)]) (N := nLaw) (sc := defScope sLaw) (by decide +kernel)) (fun _ _ _ _ _ => pg_name (i := 17) nd rfl (Or.inl rfl))
                          (fun _ _ _ _ _ => pts_one (pt_cmpR (r := rIn K true) op_notIn_seq (pe_ix (r := rIxT K) ix_tup (pv 17) pe_int (fun _ _ => rfl)) (pv 9) rfl)) (fun _ _ _ _ _ => pe_int)) pa_nil)) pe_int (nomark _)) (pss_one (ps_ret pe_bl)) pss_nil)
        (pss_one (ps_if (PW.pt (pw_and (pt_val (pe_call FF hr rfl gF kF bF .nil pass0 (pa_cons (pv 5) (pa_cons (pv 7) (pa_cons (pe_slice sl_tupA (pv 14) po_none (po_some (pv 13))) pa_nil))))) (pw_and1 (PW.pt (pw_or (pt_cmpR op_isN (pv 8) pe_non (nomark _))
                          (pw_or1 (pt_val (pe_call FI (hr.mono (by decide)) rfl gI kI bI .nil pass0 (pa_cons (pe_slice sl_tupA (pv 14) po_none (po_some (pv 13))) (pa_cons (pv 8) pa_nil)))))))))) (pss_one (ps_ret pe_bl)) pss_nil))) pss_nil)))))))))))))))))))
        (pss_one (ps_ret pe_bl))), ?_⟩
    have hl0 : (ns.map V.int).length = ns.length := List.length_map ..
    have cdiv : ∀ z : Int, CDiv z 9 := fun _ => ⟨by decide, by decide⟩
    refine ⟨_, rfl, a, _, rfl, .inl hs, _, _, rfl, rfl, cdiv _, _, _, rfl, rfl, _, _, rfl, _, rfl, ?_, ?_, ?_⟩
    · split <;> omega
    · split <;> omega
    refine for_range (fun _ σ H' => ∃ u1 u2 u3 u4 u5 u6 u7 u8 u9 u10 u11 u12 u13 u14 u15 u16 u17, σ = [some (.ref a), u1, u2, u3, u4, u5, u6, u7, u8, u9, u10, u11, u12, u13, u14, u15, u16, u17] ∧ Ext H H') ?_ ?_ ?_
    · exact ⟨none, none, none, none, none, none, none, none, none, none, none, none, none, none, none, none, none, rfl, Ext.refl H⟩
    · rintro i σ H1 hi ⟨u1, u2, u3, u4, u5, u6, u7, u8, u9, u10, u11, u12, u13, u14, u15, u16, u17, rfl, e1⟩
      have cm : CMul 9 (0 + (i : Int)) := .inl ⟨by decide, by decide⟩
      refine ⟨_, rfl, _, rfl, _, _, rfl, rfl, cm, a, ns, _, rfl, e1.seqL hs, by omega, fun p t us m n H2 e2 hp ht hus hmost hwf => ?_⟩
      refine ⟨p, _, rfl, SqT.of hp, rfl, _, _, rfl, _, _, rfl, _, _, rfl, rfl, ?_⟩
      refine ⟨_, rfl, _, rfl, _, rfl, _, _, rfl, rfl, by show 3 ≤ sizeLine; decide, fun sa nsa => ?_⟩
      have e3 : Ext H2 (upd H2 sa (.tup [.int m.first, .ref t, .int ((n : Int) + 1)])) := Ext.of_new nsa
      have hm : McAt (upd H2 sa (.tup [.int m.first, .ref t, .int ((n : Int) + 1)])) (.ref sa) m := ⟨sa, t, us, rfl, by rw [hmost]; exact upd_same, e3.tup ht, e3.cms hus⟩
      refine ⟨_, rfl, _, rfl, _, _, rfl, rfl, cm, _, _, rfl, rfl, by show 2 ≤ sizeLine; decide, fun s1 ns1 => ?_⟩
      have e4 := e3.new (o := .lst [.int 4, .int 5]) ns1
      have e14 := (e1.trans e2).trans e4
      refine ⟨a, s1, ns, [4, 5], _, rfl, e14.seqL hs, by omega, upd_same, by decide, by decide, fun dp ds H3 e5 hdp hds => ?_⟩
      obtain _ | ⟨_, hds⟩ := hds
      obtain _ | ⟨_, hds⟩ := hds
      cases hds
      refine ⟨_, rfl, dp, _, _, rfl, hdp, fun iv inv H4 e6 hiv hiw => ?_⟩
      have e16 := (e14.trans e5).trans e6
      have hm4 : McAt H4 (.ref sa) m := (((Ext.of_new ns1).trans e5).trans e6).mc hm
      refine ⟨_, rfl, _, rfl, .ref sa, iv, m, inv, rfl, hm4, hwf, hiv, hiw, e16.tabS hT, fun lv H5 e7 hlv => ?_⟩
      refine ⟨_, rfl, .ref sa, m, rfl, e7.mc hm4, hwf, (e16.trans e7).tabS hT, fun sp sts H6 e8 hsp hasc hreach h29 => ?_⟩
      have e18 := (e16.trans e7).trans e8
      have hm6 := (e7.trans e8).mc hm4
      have hiv6 := (e7.trans e8).cd hiv
      have hlv6 := e8.best hlv
      refine ⟨_, rfl, sp, rfl, ⟨_, SqL.of hsp⟩, fun D nD => ?_⟩
      refine lc_list (K := K) (a := sp) (xs := sts.map V.int) (fun i H' => Ext H6 H' ∧ H' D = some (.lst (((sts.take i).filter fun s => !inv.ok s).map V.int))) ⟨Ext.of_new nD, upd_same⟩ (fun i H' _ ⟨e, _⟩ => SqL.of (e.lst hsp)) ?_ ?_
      · rintro j x H7 hx ⟨e9, hD⟩
        obtain ⟨k, hk, rfl⟩ : ∃ k, sts[j]? = some k ∧ V.int k = x := by
          rw [List.getElem?_map] at hx
          cases hz : sts[j]? with
          | none => rw [hz] at hx; cases hx
          | some k => rw [hz] at hx; exact ⟨k, rfl, Option.some.inj hx⟩
        have htk : (sts.take (j + 1)).filter (fun s => !inv.ok s) = (sts.take j).filter (fun s => !inv.ok s) ++ [k].filter (fun s => !inv.ok s) := by rw [take_more hk, List.filter_append]
        have hcap : (((sts.take j).filter fun s => !inv.ok s).map V.int).length ≤ 29 := by
          rw [List.length_map]
          refine Nat.le_trans (List.length_filter_le _ _) ?_
          rw [List.length_take]
          omega
        refine ⟨rfl, _, rfl, _, rfl, iv, inv, k, rfl, e9.cd hiv6, hiw, _, rfl, ?_⟩
        cases hb : inv.ok k with
        | true =>
          refine ite_bf rfl ⟨e9, ?_⟩
          rw [htk, show [k].filter (fun s => !inv.ok s) = [] by simp [hb], List.append_nil]
          exact hD
        | false =>
          refine ite_bt rfl ⟨_, rfl, _, hD, len_lt (by omega), e9.put nD (noext hD lst_ext), ?_⟩
          rw [upd_same, htk, show [k].filter (fun s => !inv.ok s) = [k] by simp [hb], List.map_append]
          rfl
      · rintro H7 ⟨e9, hD⟩
        rw [List.length_map, List.take_length] at hD
        have e19 := e18.trans e9
        have hm7 := e9.mc hm6
        have hiv7 := e9.cd hiv6
        have hlv7 := e9.best hlv6
        have hsp7 := e9.lst hsp
        have hsome : ∀ r, m.least inv = some r → ∃ la, lv = .ref la ∧ RowAt H7 la r ∧ r.length ≤ 20 := fun r hb => by rw [hb] at hlv7; exact hlv7
        have hnone : m.least inv = none → lv = .non := fun hb => by rw [hb] at hlv7; exact hlv7
        have hcase : m.least inv = none ∨ ∃ r, m.least inv = some r := by
          cases m.least inv with
          | none => exact .inl rfl
          | some r => exact .inr ⟨r, rfl⟩
        have hempty : decide (V.int (((sts.filter fun s => !inv.ok s).map V.int).length : Int) = V.int 0) = decide (lv = .non) := by
          rw [List.length_map]
          rcases hcase with hb | ⟨r, hb⟩
          · rw [hnone hb, decide_eq_true rfl]
            have : sts.filter (fun s => !inv.ok s) = [] := List.filter_eq_nil_iff.mpr fun s hs => by
              rw [(law_none m inv).mp hb s ((hreach s).mp hs)]
              decide
            rw [this]
            rfl
          · obtain ⟨la, hla, _⟩ := hsome r hb
            rw [hla, show decide (V.ref la = V.non) = false from rfl]
            refine decide_eq_false fun z => ?_
            have hz : sts.filter (fun s => !inv.ok s) = [] := by
              have z' : ((sts.filter fun s => !inv.ok s).length : Int) = 0 := V.int.inj z
              exact List.length_eq_zero_iff.mp (by omega)
            have hn : m.least inv = none := (law_none m inv).mpr fun s hs => by
              have := List.filter_eq_nil_iff.mp hz s ((hreach s).mpr hs)
              cases hk : inv.ok s with
              | true => rfl
              | false => rw [hk] at this; exact absurd rfl this
            rw [hn] at hb
            cases hb
        refine ⟨_, rfl, rfl, _, rfl, D, _, rfl, .inl (SqL.of hD), rfl, rfl, _, rfl, ite_bf (by rw [hempty]; simp) ⟨_, rfl, rfl, _, rfl, ?_⟩⟩
        rcases hcase with hb | ⟨r, hb⟩
        have e10 : Ext H7 H7 := Ext.refl H7
        refine ite_bf (by rw [hnone hb]; rfl) (iteF ?_)
        rotate_left 1
        obtain ⟨la, hla, hlr, hl20⟩ := hsome r hb
        refine ite_bt (by rw [hla]; rfl) ⟨_, rfl, _, rfl, _, rfl, .ref sa, iv, m, inv, la, r, by rw [hla]; rfl, hm7, hwf, hiv7, hiw, hlr, by omega, e19.tab P2 hG, fun H8 e10 => ⟨_, rfl, ite_bf (by rw [law_fails m inv hb]; rfl) ?_⟩⟩
        rotate_left 1
        all_goals
          refine ⟨_, rfl, _, rfl, sp, _, rfl, .inl (SqL.of (e10.lst hsp7)), rfl, flat_ints sts, _, rfl, ite_bf (by rw [if_pos rfl, inV_ints, decide_eq_true ((hreach _).mpr (first_reach m))]; rfl) ?_⟩
          refine ⟨_, rfl, _, rfl, sp, sts, rfl, SqL.of (e10.lst hsp7), by omega, fun ss q1 hperm hsrt nq1 => ?_⟩
          have hss := sorted_self hperm hsrt hasc
          subst hss
          have e11 : Ext _ (upd _ q1 (.lst (ss.map V.int))) := Ext.of_new nq1
          refine ⟨_, _, .lst (SqL.of (e11.lst (e10.lst hsp7))) (dpAll_ints ss), .lst (SqL.of upd_same) (dpAll_ints ss), shaped_ints ss, shaped_ints ss, _, rfl, ite_bf (by rw [eqv_ints]; rfl) ?_⟩
          have e7b := e10.trans e11
          have eb := e19.trans e7b
          have hmb := e7b.mc hm7
          have hivb := e7b.cd hiv7
          have hlvb := e7b.best hlv7
          have hspb := e7b.lst hsp7
          clear hm7 hiv7 hlv7 hsp7 hsome hm6 hiv6 hlv6 hsp hm4 hempty
          refine ⟨4, rfl, by decide, by decide, ?_⟩
          refine for_range (fun _ σ H' => ∃ u11 u12 u13 u14 u15 u16 u17, σ = [some (.ref a), some (.int (0 + (i : Int))), some (.int m.first), some (.ref t), some (.int (n : Int)), some (.ref sa), some (.ref dp), some iv, some lv, some (.ref sp), some (.ref D), u11, u12, u13, u14, u15, u16, u17] ∧ Ext (upd _ q1 (.lst (ss.map V.int))) H') ⟨u11, u12, u13, u14, u15, u16, u17, rfl, Ext.refl _⟩ ?_ ?_
          · rintro j σ Hc hj ⟨u11, u12, u13, u14, u15, u16, u17, rfl, ec⟩
            refine ⟨_, rfl, _, rfl, _, _, rfl, rfl, cm, _, _, rfl, rfl, _, rfl, _, _, rfl, rfl, by show 12 ≤ sizeLine; decide, fun s2 ns2 => ?_⟩
            have ec2 : Ext Hc (upd Hc s2 (.lst [.int 3, .int 4, .int 2, .int 3, .int 4, .int 2, .int 3, .int 4, .int 2, .int 3, .int 4, .int 2])) := Ext.of_new ns2
            refine ⟨a, s2, ns, [3, 4, 2, 3, 4, 2, 3, 4, 2, 3, 4, 2], _, rfl, ((eb.trans ec).trans ec2).seqL hs, by omega, upd_same, by decide, by decide, fun pp ds Hd ed hpp hds => ?_⟩
            have h12 : ds.length = 12 := paired_len hds
            refine ⟨12, rfl, by decide, by decide, fun D2 nD2 => ?_⟩
            refine lc_range (lo := 0) (fun i H' => Ext Hd H' ∧ ∃ r : List Int, r.length = i ∧ H' D2 = some (.lst (r.map V.int))) ⟨Ext.of_new nD2, [], rfl, upd_same⟩ ?_ ?_
            · rintro k He hk ⟨ee, r, hrl, hD2⟩
              have hk : k < 12 := hk
              obtain ⟨d, hd⟩ : ∃ d, ds[k]? = some d := ⟨_, List.getElem?_eq_getElem (by omega)⟩
              have hat : atI (ds.map V.int) (0 + (k : Int)) = some (.int d) := at_int (by omega) (by rw [show (0 + (k : Int)).toNat = k by omega, List.getElem?_map, hd]; rfl)
              refine ⟨rfl, _, rfl, _, rfl, pp, _, _, _, rfl, rfl, SqL.of (ee.lst hpp), hat, _, _, rfl, ?_⟩
              refine ⟨_, rfl, _, rfl, pp, _, _, _, rfl, rfl, SqL.of (ee.lst hpp), hat, _, rfl, _, rfl, pp, _, _, _, rfl, rfl, SqL.of (ee.lst hpp), hat, by show 3 ≤ sizeLine; decide, fun l nl => ?_⟩
              obtain ⟨v, hv⟩ := pick3 (if d < 1 then d else 1) d d ((0 + (k : Int)) % 3) (Int.emod_nonneg _ (by decide)) (Int.emod_lt_of_pos _ (by decide))
              have hDl := fun o => (Ext.of_new (o := o) nl).lst hD2
              refine ⟨_, rfl, _, _, rfl, rfl, (by show (0 : Int) < 3; decide), l, _, _, _, rfl, rfl, SqL.of upd_same, hv, _, hDl _, len_lt (by rw [List.length_map]; omega), (ee.new nl).put nD2 (noext (hDl _) lst_ext), r ++ [v], by rw [List.length_append, hrl]; rfl, ?_⟩
              rw [upd_same, List.map_append]
              rfl
            · rintro He ⟨ee, r, hrl, hD2⟩
              have hrl : r.length = 12 := hrl
              refine ⟨D2, _, rfl, .inl ⟨SqL.of hD2, fun rp nrp => ?_⟩⟩
              have ef : Ext He (upd He rp (.tup (r.map V.int))) := Ext.of_new nrp
              have hrow : RowAt (upd He rp (.tup (r.map V.int))) rp r := upd_same
              have e0f := (((ec.trans ec2).trans ed).trans ee).trans ef
              refine ⟨13, rfl, by decide, by decide, ?_⟩
              refine for_range (fun _ σ H' => ∃ u13 u15, σ = [some (.ref a), some (.int (0 + (i : Int))), some (.int m.first), some (.ref t), some (.int (n : Int)), some (.ref sa), some (.ref dp), some iv, some lv, some (.ref sp), some (.ref D), some (.int (0 + (j : Int))), some (.ref pp), u13, some (.ref rp), u15, u16, u17] ∧ Ext (upd He rp (.tup (r.map V.int))) H') ⟨_, _, rfl, Ext.refl _⟩ ?_ ?_
              · rintro k σ Hk hk ⟨u13, u15, rfl, ek⟩
                have e0k := e0f.trans ek
                refine ⟨_, rfl, _, rfl, _, rfl, _, rfl, slA_row (ek.tup hrow) (by omega) fun q2 Hs es hq2 => ?_⟩
                have e0s := e0k.trans es
                refine ⟨.ref sa, m, q2, _, rfl, e0s.mc hmb, hwf, hq2, by rw [List.length_take]; omega, fun hn o Hr er ho => ?_, fun ts used hrun po qo tvs Hr er hpo hqo htr hl4 => ?_⟩
                · obtain ⟨z, nn, ho, hz'⟩ := ho
                  exact ⟨_, rfl, _, _, _, _, rfl, rfl, SqT.of ho, at_0, rfl, _, rfl, ite_f (fun z' => hz' (by injection z')) ⟨_, _, rfl, (ek.trans es).trans er⟩⟩
                · have e0r := e0s.trans er
                  refine ⟨_, rfl, _, _, _, _, rfl, rfl, SqT.of hpo, at_0, rfl, _, rfl, ite_t rfl ?_⟩
                  refine ⟨_, rfl, _, _, _, _, rfl, rfl, SqT.of hpo, at_1, qo, rfl, ⟨_, SqT.of hqo⟩, fun D3 nD3 => ?_⟩
                  have htl := paired_len htr
                  refine lc_tup (K := K) (a := qo) (xs := tvs) (fun i H' => Ext Hr H' ∧ H' D3 = some (.lst [])) ⟨Ext.of_new nD3, upd_same⟩ (fun i H' _ ⟨e, _⟩ => SqT.of (e.tup hqo)) ?_ ?_
                  · rintro c x Hx hx ⟨ex, hD3⟩
                    obtain ⟨t', ht', ta, rfl, hta⟩ := paired_get htr hx
                    have hin : t'.2.2 ∈ ss := (hreach _).mpr (law_states m hrun t' (List.mem_of_getElem? ht'))
                    exact ⟨rfl, _, rfl, _, _, _, _, rfl, rfl, SqT.of (ex.tup hta), at_2, _, rfl, sp, _, rfl, .inl (SqL.of ((e0r.trans ex).lst hspb)), rfl, flat_ints ss, _, rfl, ite_bf (by rw [if_pos rfl, inV_ints, decide_eq_true hin]; rfl) ⟨ex, hD3⟩⟩
                  · rintro Hx ⟨ex, hD3⟩
                    have e0x := e0r.trans ex
                    refine ⟨D3, _, rfl, .inl (SqL.of hD3), _, _, rfl, rfl, _, rfl, ite_f (by show ¬ (0 : Int) < 0; decide) ?_⟩
                    have ekx := ((ek.trans es).trans er).trans ex
                    refine ⟨_, rfl, _, rfl, _, rfl, _, rfl, _, rfl, slA_row (ekx.tup hrow) (by omega) fun q3 Hy ey hq3 => ?_⟩
                    have e0y := e0x.trans ey
                    refine ⟨.ref sa, iv, m, inv, q3, _, rfl, e0y.mc hmb, hwf, e0y.cd hivb, hiw, hq3, by rw [List.length_take]; omega, (eb.trans e0y).tab P2 hG, fun Hf ez => ⟨_, rfl, ?_⟩⟩
                    cases hfl : m.fails inv (r.take (0 + (k : Int)).toNat) with
                    | false => exact ite_bf rfl (iteF ⟨_, _, rfl, (ekx.trans ey).trans ez⟩)
                    | true =>
                      obtain ⟨r0, hr0, hless⟩ := law_least m inv hfl
                      have hbz := (e0y.trans ez).best hlvb
                      rw [hr0] at hbz
                      obtain ⟨la', hla', hlr', _⟩ := hbz
                      refine ite_bt rfl ⟨_, rfl, rfl, _, rfl, ite_bf (by rw [hla']; rfl) ?_⟩
                      refine ⟨_, rfl, _, rfl, _, rfl, slA_row (((ekx.trans ey).trans ez).tup hrow) (by omega) fun q4 Hg eg hq4 => ?_⟩
                      refine ⟨_, rfl, q4, la', _, r0, by rw [hla']; rfl, hq4, eg.tup hlr', fun Hh eh => ⟨_, rfl, ite_bf hless ?_⟩⟩
                      exact ⟨_, _, rfl, (((ekx.trans ey).trans ez).trans eg).trans eh⟩
              · rintro σ Hk ⟨u13, u15, rfl, ek⟩
                exact ⟨_, _, _, _, _, _, _, rfl, e0f.trans ek⟩
          · rintro σ Hc ⟨u11, u12, u13, u14, u15, u16, u17, rfl, ec⟩
            exact ⟨_, _, _, _, _, _, _, _, _, _, _, _, _, _, _, _, _, rfl, eb.trans ec⟩
    · rintro σ H1 ⟨u1, u2, u3, u4, u5, u6, u7, u8, u9, u10, u11, u12, u13, u14, u15, u16, u17, rfl, e1⟩
      exact q _
end
end Cr
set_option Elab.async false
set_option linter.all false
set_option maxRecDepth 100000
set_option maxHeartbeats 4000000
/-! Choicerows: what the head tells of Stop. -/
namespace Cr
open PySem PySem.Spec PyProof.Rows L2 CRM
theorem toArr {α : Type} {a : Array α} {l : List α} (h : a.toList = l) : a = l.toArray := by
  rw [← h, Array.toArray_toList]
section
variable {w : World} {h : Heap} {K : PySem.W.Frag} {mg : Str → Option Value}
theorem stop_cls (e1 : stopClsB K = true) : ∃ nm q N bs sn sub ab col dd k0 k1 k2 k3 k5, K.lookup (He.ga K "Stop") = some (PySem.excClassObj nm q (He.ga K "Stop") N bs PySem.ESX.exTail true sn sub ab col dd k0 k1 k2 k3 k5 "Exception.__new__") := by
  unfold stopClsB at e1
  split at e1
  · rename_i t dd cd sl lk
    obtain ⟨et, e1⟩ := He.ba e1
    split at e1
    · rename_i C' bm k0 k1 k2 k3 n k5 hm hsl
      obtain ⟨eC, e1⟩ := He.ba e1
      obtain ⟨en, e1⟩ := He.ba e1
      obtain ⟨edel, e1⟩ := He.ba e1
      obtain ⟨edict, ebm⟩ := He.ba e1
      have et := of_decide_eq_true et
      have eC := of_decide_eq_true eC
      have en := of_decide_eq_true en
      have ebm := of_decide_eq_true ebm
      have hsl := toArr hsl
      obtain ⟨a1, a2, a3, a4, a5, a6, a7, a8, a9, a10, a11⟩ := cd
      have edel : a11 = false := by simpa using edel
      have edict : a6 = true := edict
      have hm : a3 = _ := hm
      subst et en ebm hsl edel edict hm
      subst eC
      exact ⟨a1, a5, a4, a2, a7, a8, a9, a10, dd, k0, k1, k2, k3, k5, lk⟩
    · cases e1
  · cases e1
theorem dfl_ok {n8 : Value} (d1 : (match n8 with | .none => true | _ => false) = true) : n8 = .none := by
  cases n8 <;> first | rfl | cases d1
theorem clos_ok {C : Addr} {n7 : List (Str × Addr)} (d4 : (match n7 with
      | [(x, cc)] => decide (x = "__class__") && (match K.lookup cc with
        | some ⟨_, _, .cell (some (.ref D)), _⟩ => decide (D = C)
        | _ => false)
      | _ => false) = true) : ∃ cc, n7 = [(("__class__" : Str), cc)] ∧ ∃ cl cld csl, K.lookup cc = some ⟨cl, cld, .cell (some (.ref C)), csl⟩ := by
  split at d4
  · rename_i x cc
    obtain ⟨dx, d4⟩ := He.ba d4
    have dx := of_decide_eq_true dx
    subst dx
    split at d4
    · rename_i cl cld D csl lkc
      have dD := of_decide_eq_true d4
      subst dD
      exact ⟨cc, rfl, cl, cld, csl, lkc⟩
    · cases d4
  · cases d4
theorem file_ok {cda : Addr} {F : Str} (d3 : (match K.lookup cda with
        | some ⟨_, _, .fields vs, _⟩ => (match (vs[2]? : Option Value) with
          | some (.str file _) => (F == file)
          | _ => false)
        | _ => false) = true) : ∃ ccl cdd vs ccs file tf, K.lookup cda = some ⟨ccl, cdd, .fields vs, ccs⟩ ∧ vs[2]? = some (.str file tf) ∧ (F == file) = true := by
  split at d3
  · rename_i ccl cdd vs ccs lkd
    split at d3
    · rename_i file tf hv
      exact ⟨ccl, cdd, vs, ccs, file, tf, lkd, hv, d3⟩
    · cases d3
  · cases d3
theorem stop_fn (e2 : stopFnB K = true) (s : stopD K = stopV) : ∃ (oc : Value) (od : Option Addr) (kV doc pm : Value) (an : Option Addr) (cda : Addr) (ct : Value) (cc : Addr) (osl : Array (Option Value)),
    K.lookup (He.ma K (He.ga K "Stop") "__init__") = some ⟨oc, od, .func (PySem.W.ksFn "__init__" "Stop.__init__" (defArgs sStopInit) (defBody sStopInit) (defScope sStopInit) .none kV doc pm an (.ref cda) ct cc), osl⟩ ∧ PySem.W.codeIn K (.ref cda) "Stop.__init__" = true ∧
    (∃ ccl cdd vs ccs file tf, K.lookup cda = some ⟨ccl, cdd, .fields vs, ccs⟩ ∧ vs[2]? = some (.str file tf) ∧ ((R.prog.main.file : Str) == file) = true) ∧
    ∃ cl cld csl, K.lookup cc = some ⟨cl, cld, .cell (some (.ref (He.ga K "Stop"))), csl⟩ := by
  unfold stopFnB at e2
  unfold stopD at s
  cases lk : K.lookup (He.ma K (He.ga K "Stop") "__init__") with
  | none => rw [lk] at e2; cases e2
  | some o =>
  rw [lk] at e2 s
  obtain ⟨oc, od, dt, osl⟩ := o
  cases dt with
  | func fd =>
    have d1 := (He.ba e2).1
    have d2 := (He.ba (He.ba e2).2).1
    have d3' := (He.ba (He.ba (He.ba e2).2).2).1
    have d4' := (He.ba (He.ba (He.ba e2).2).2).2
    clear e2
    obtain ⟨n1, n2, n3, n4, n5, n6, n7, n8, n9, n10, n11, n12, n13, n14, n15⟩ := fd
    have d1 : n8 = .none := dfl_ok d1
    have d2 : PySem.W.codeIn K n13 "Stop.__init__" = true := d2
    obtain ⟨cc, d4, d5⟩ := clos_ok (K := K) (C := He.ga K "Stop") (n7 := n7) d4'
    clear d4'
    obtain ⟨cda, hcda⟩ := He.codeIn_ref d2
    subst d1 hcda d4
    have d3 := file_ok (K := K) (cda := cda) (F := R.prog.main.file) d3'
    clear d3'
    have s2 : (some (n1, n2, n3, n4, n5, n6, n15) : StopD) = stopV := s
    unfold stopV at s2
    simp only [Option.some.injEq, Prod.mk.injEq] at s2
    obtain ⟨h1, h2, h3, h4, h5, h6, h7⟩ := s2
    subst h1 h2 h3 h4 h5 h6 h7
    exact ⟨oc, od, n9, n10, n11, n12, cda, n14, cc, osl, rfl, d2, d3, d5⟩
  | _ => cases e2
theorem stop_txt (KX : K.In h) (G : h.Ns mainGlobals mg) (c : SaysC w h K) : StopTxt (PySem.Challenge.rw_choicerows_k58_whole_no_run_fails_ahead).prog K mg (He.ga K "Stop") (He.ma K (He.ga K "Stop") "__init__") := by
  have e0 := (He.ba c.x.more).2
  have e1 := (He.ba e0).1
  have e2 := (He.ba (He.ba e0).2).1
  have e3 := (He.ba (He.ba e0).2).2
  have f : ∀ i b, (stopFs K)[i]? = some b → b = true := fun i b hb => List.all_eq_true.mp e3 b (List.mem_of_getElem? hb)
  exact ⟨He.glo_ok KX G (c.x.t.d.fact 28 (f := .glo "Stop") rfl), He.free_ok KX G (c.x.t.d.fact 37 (f := .free "super") rfl), stop_cls e1, He.eqO_ok (f 0 _ rfl), xfB_ok (f 1 _ rfl), of_decide_eq_true (f 2 _ rfl), f 3 _ rfl, He.eqO_ok (f 4 _ rfl), of_decide_eq_true (f 5 _ rfl), He.eqO_ok (f 6 _ rfl), of_decide_eq_true (f 7 _ rfl), He.eqO_ok (f 8 _ rfl), stop_fn e2 c.s⟩
end
end Cr
set_option Elab.async false
set_option linter.all false
set_option maxRecDepth 100000
set_option maxHeartbeats 0
/-! Choicerows: the chain of promises, the end. -/
namespace Cr
open PySem PySem.Spec PyProof.Rows L2 CRM
theorem code_ref {K : PySem.W.Frag} {p : Str × Option Str} {x q : Str} {st : Stmt} {fd : FuncData} (F : FunD K x q (defArgs st) (defBody st) (defScope st) [] [] (He.fAd K p) fd) : fd.code = .ref (He.codeOf K p) := by
  obtain ⟨oc, od, dV, kV, doc, pm, an, cdv, ct, osl, rfl, lk, hcd, _, _⟩ := F.ex
  obtain ⟨c, hc⟩ := He.codeIn_ref hcd
  subst hc
  rw [He.codeOf_eq lk rfl]
theorem facts {w : World} {h : Heap} {K : PySem.W.Frag} {mg : Str → Option Value} {fl : Addr} (KX : K.In h) (G : h.Ns mainGlobals mg) (hfl : mg ("law" : Str) = some (.ref fl)) (c : SaysC w h K) :
    LamX.LawAtS PySem.Challenge.rw_choicerows_k58_whole_no_run_fails_ahead w K CX0 13 63 "_law_script" mg fl h := by
  have cd := c.x.t.d
  obtain ⟨f_dHolds, F_dHolds⟩ : ∃ fd, FnP K "holds" "holds" sHolds (He.ga K "holds") fd := cd.def_ 0 (d := dHolds) rfl
  have b_dHolds : Binds K f_dHolds ["condition", "value"] [] := F_dHolds.bindsN fun _ _ _ _ _ _ us hl => match us, hl with | [_, _], _ => rfl
  have g_dHolds : mg "holds" = some (.ref (He.ga K "holds")) := He.glo_ok KX G (cd.fact 0 (f := .glo "holds") rfl)
  obtain ⟨f_dParts, F_dParts⟩ : ∃ fd, FnP K "parts_of" "parts_of" sParts (He.ga K "parts_of") fd := cd.def_ 1 (d := dParts) rfl
  have b_dParts : Binds K f_dParts ["generator"] [] := F_dParts.bindsN fun _ _ _ _ _ _ us hl => match us, hl with | [_], _ => rfl
  have g_dParts : mg "parts_of" = some (.ref (He.ga K "parts_of")) := He.glo_ok KX G (cd.fact 1 (f := .glo "parts_of") rfl)
  obtain ⟨f_dDrawF, F_dDrawF⟩ : ∃ fd, FnP K "draw" "draw" sDrawF (He.ga K "draw") fd := cd.def_ 2 (d := dDrawF) rfl
  have b_dDrawF : Binds K f_dDrawF ["generator", "row"] [] := F_dDrawF.bindsN fun _ _ _ _ _ _ us hl => match us, hl with | [_, _], _ => rfl
  have g_dDrawF : mg "draw" = some (.ref (He.ga K "draw")) := He.glo_ok KX G (cd.fact 2 (f := .glo "draw") rfl)
  obtain ⟨f_dInOrder, F_dInOrder⟩ : ∃ fd, FnP K "in_order" "in_order" sInOrder (He.ga K "in_order") fd := cd.def_ 3 (d := dInOrder) rfl
  have b_dInOrder : Binds K f_dInOrder ["found"] [] := F_dInOrder.bindsN fun _ _ _ _ _ _ us hl => match us, hl with | [_], _ => rfl
  have g_dInOrder : mg "in_order" = some (.ref (He.ga K "in_order")) := He.glo_ok KX G (cd.fact 3 (f := .glo "in_order") rfl)
  obtain ⟨f_dPutTog, F_dPutTog⟩ : ∃ fd, FnP K "put_together" "put_together" sPutTog (He.ga K "put_together") fd := cd.def_ 4 (d := dPutTog) rfl
  have b_dPutTog : Binds K f_dPutTog ["triples"] [] := F_dPutTog.bindsN fun _ _ _ _ _ _ us hl => match us, hl with | [_], _ => rfl
  have g_dPutTog : mg "put_together" = some (.ref (He.ga K "put_together")) := He.glo_ok KX G (cd.fact 4 (f := .glo "put_together") rfl)
  obtain ⟨f_dChkMany, F_dChkMany⟩ : ∃ fd, FnP K "check_many" "check_many" sChkMany (He.ga K "check_many") fd := cd.def_ 5 (d := dChkMany) rfl
  have b_dChkMany : Binds K f_dChkMany ["many", "path"] [] := F_dChkMany.bindsN fun _ _ _ _ _ _ us hl => match us, hl with | [_, _], _ => rfl
  have g_dChkMany : mg "check_many" = some (.ref (He.ga K "check_many")) := He.glo_ok KX G (cd.fact 5 (f := .glo "check_many") rfl)
  obtain ⟨f_dTriples, F_dTriples⟩ : ∃ fd, FnP K "triples_of" "triples_of" sTriples (He.ga K "triples_of") fd := cd.def_ 6 (d := dTriples) rfl
  have b_dTriples : Binds K f_dTriples ["generator", "tables", "path"] [] := F_dTriples.bindsN fun _ _ _ _ _ _ us hl => match us, hl with | [_, _, _], _ => rfl
  have g_dTriples : mg "triples_of" = some (.ref (He.ga K "triples_of")) := He.glo_ok KX G (cd.fact 6 (f := .glo "triples_of") rfl)
  obtain ⟨f_dTableAt, F_dTableAt⟩ : ∃ fd, FnP K "table_at" "table_at" sTableAt (He.ga K "table_at") fd := cd.def_ 7 (d := dTableAt) rfl
  have b_dTableAt : Binds K f_dTableAt ["generator", "path"] [] := F_dTableAt.bindsN fun _ _ _ _ _ _ us hl => match us, hl with | [_, _], _ => rfl
  have g_dTableAt : mg "table_at" = some (.ref (He.ga K "table_at")) := He.glo_ok KX G (cd.fact 7 (f := .glo "table_at") rfl)
  obtain ⟨f_dTable, F_dTable⟩ : ∃ fd, FnP K "table" "table" sTable (He.ga K "table") fd := cd.def_ 8 (d := dTable) rfl
  have b_dTable : Binds K f_dTable ["generator"] [] := F_dTable.bindsN fun _ _ _ _ _ _ us hl => match us, hl with | [_], _ => rfl
  have g_dTable : mg "table" = some (.ref (He.ga K "table")) := He.glo_ok KX G (cd.fact 8 (f := .glo "table") rfl)
  obtain ⟨f_dAllowed, F_dAllowed⟩ : ∃ fd, FnP K "allowed" "allowed" sAllowed (He.ga K "allowed") fd := cd.def_ 9 (d := dAllowed) rfl
  have b_dAllowed : Binds K f_dAllowed ["some_machine", "state"] [] := F_dAllowed.bindsN fun _ _ _ _ _ _ us hl => match us, hl with | [_, _], _ => rfl
  have g_dAllowed : mg "allowed" = some (.ref (He.ga K "allowed")) := He.glo_ok KX G (cd.fact 9 (f := .glo "allowed") rfl)
  obtain ⟨f_dChoiceAt, F_dChoiceAt⟩ : ∃ fd, FnP K "choice_at" "choice_at" sChoiceAt (He.ga K "choice_at") fd := cd.def_ 10 (d := dChoiceAt) rfl
  have b_dChoiceAt : Binds K f_dChoiceAt ["row", "place", "bound"] [] := F_dChoiceAt.bindsN fun _ _ _ _ _ _ us hl => match us, hl with | [_, _, _], _ => rfl
  have g_dChoiceAt : mg "choice_at" = some (.ref (He.ga K "choice_at")) := He.glo_ok KX G (cd.fact 10 (f := .glo "choice_at") rfl)
  obtain ⟨f_dArgAt, F_dArgAt⟩ : ∃ fd, FnP K "argument_at" "argument_at" sArgAt (He.ga K "argument_at") fd := cd.def_ 11 (d := dArgAt) rfl
  have b_dArgAt : Binds K f_dArgAt ["command", "row", "place"] [] := F_dArgAt.bindsN fun _ _ _ _ _ _ us hl => match us, hl with | [_, _, _], _ => rfl
  have g_dArgAt : mg "argument_at" = some (.ref (He.ga K "argument_at")) := He.glo_ok KX G (cd.fact 11 (f := .glo "argument_at") rfl)
  obtain ⟨f_dOneStep, F_dOneStep⟩ : ∃ fd, FnP K "one_step" "one_step" sOneStep (He.ga K "one_step") fd := cd.def_ 12 (d := dOneStep) rfl
  have b_dOneStep : Binds K f_dOneStep ["some_machine", "row", "place", "state"] [] := F_dOneStep.bindsN fun _ _ _ _ _ _ us hl => match us, hl with | [_, _, _, _], _ => rfl
  have g_dOneStep : mg "one_step" = some (.ref (He.ga K "one_step")) := He.glo_ok KX G (cd.fact 12 (f := .glo "one_step") rfl)
  obtain ⟨f_dRunM, F_dRunM⟩ : ∃ fd, FnP K "run_machine" "run_machine" sRunM (He.ga K "run_machine") fd := cd.def_ 13 (d := dRunM) rfl
  have b_dRunM : Binds K f_dRunM ["some_machine", "row"] [] := F_dRunM.bindsN fun _ _ _ _ _ _ us hl => match us, hl with | [_, _], _ => rfl
  have g_dRunM : mg "run_machine" = some (.ref (He.ga K "run_machine")) := He.glo_ok KX G (cd.fact 13 (f := .glo "run_machine") rfl)
  obtain ⟨f_dDoesFail, F_dDoesFail⟩ : ∃ fd, FnP K "does_fail" "does_fail" sDoesFail (He.ga K "does_fail") fd := cd.def_ 14 (d := dDoesFail) rfl
  have b_dDoesFail : Binds K f_dDoesFail ["some_machine", "invariant", "row"] [] := F_dDoesFail.bindsN fun _ _ _ _ _ _ us hl => match us, hl with | [_, _, _], _ => rfl
  have g_dDoesFail : mg "does_fail" = some (.ref (He.ga K "does_fail")) := He.glo_ok KX G (cd.fact 14 (f := .glo "does_fail") rfl)
  obtain ⟨f_dStepsFrom, F_dStepsFrom⟩ : ∃ fd, FnP K "steps_from" "steps_from" sStepsFrom (He.ga K "steps_from") fd := cd.def_ 15 (d := dStepsFrom) rfl
  have b_dStepsFrom : Binds K f_dStepsFrom ["some_machine", "tables", "rows", "state"] [] := F_dStepsFrom.bindsN fun _ _ _ _ _ _ us hl => match us, hl with | [_, _, _, _], _ => rfl
  have g_dStepsFrom : mg "steps_from" = some (.ref (He.ga K "steps_from")) := He.glo_ok KX G (cd.fact 15 (f := .glo "steps_from") rfl)
  obtain ⟨f_dFurther, F_dFurther⟩ : ∃ fd, FnP K "further" "further" sFurther (He.ga K "further") fd := cd.def_ 16 (d := dFurther) rfl
  have b_dFurther : Binds K f_dFurther ["some_machine", "tables", "rows"] [] := F_dFurther.bindsN fun _ _ _ _ _ _ us hl => match us, hl with | [_, _, _], _ => rfl
  have g_dFurther : mg "further" = some (.ref (He.ga K "further")) := He.glo_ok KX G (cd.fact 16 (f := .glo "further") rfl)
  obtain ⟨f_dLayers, F_dLayers⟩ : ∃ fd, FnP K "layers" "layers" sLayers (He.ga K "layers") fd := cd.def_ 17 (d := dLayers) rfl
  have b_dLayers : Binds K f_dLayers ["some_machine"] [] := F_dLayers.bindsN fun _ _ _ _ _ _ us hl => match us, hl with | [_], _ => rfl
  have g_dLayers : mg "layers" = some (.ref (He.ga K "layers")) := He.glo_ok KX G (cd.fact 17 (f := .glo "layers") rfl)
  obtain ⟨f_dLeastRun, F_dLeastRun⟩ : ∃ fd, FnP K "least_run" "least_run" sLeastRun (He.ga K "least_run") fd := cd.def_ 18 (d := dLeastRun) rfl
  have b_dLeastRun : Binds K f_dLeastRun ["some_machine", "invariant"] [] := F_dLeastRun.bindsN fun _ _ _ _ _ _ us hl => match us, hl with | [_, _], _ => rfl
  have g_dLeastRun : mg "least_run" = some (.ref (He.ga K "least_run")) := He.glo_ok KX G (cd.fact 18 (f := .glo "least_run") rfl)
  obtain ⟨f_dReach, F_dReach⟩ : ∃ fd, FnP K "reachable" "reachable" sReach (He.ga K "reachable") fd := cd.def_ 19 (d := dReach) rfl
  have b_dReach : Binds K f_dReach ["some_machine"] [] := F_dReach.bindsN fun _ _ _ _ _ _ us hl => match us, hl with | [_], _ => rfl
  have g_dReach : mg "reachable" = some (.ref (He.ga K "reachable")) := He.glo_ok KX G (cd.fact 19 (f := .glo "reachable") rfl)
  obtain ⟨f_dIsLess, F_dIsLess⟩ : ∃ fd, FnP K "is_less" "is_less" sIsLess (He.ga K "is_less") fd := cd.def_ 20 (d := dIsLess) rfl
  have b_dIsLess : Binds K f_dIsLess ["row", "other"] [] := F_dIsLess.bindsN fun _ _ _ _ _ _ us hl => match us, hl with | [_, _], _ => rfl
  have g_dIsLess : mg "is_less" = some (.ref (He.ga K "is_less")) := He.glo_ok KX G (cd.fact 20 (f := .glo "is_less") rfl)
  obtain ⟨f_dLCell, F_dLCell⟩ : ∃ fd, FnP K "_law_cell" "_law_cell" sLCell (He.ga K "_law_cell") fd := cd.def_ 21 (d := dLCell) rfl
  have b_dLCell : Binds K f_dLCell ["_law_script", "_law_k"] [] := F_dLCell.bindsN fun _ _ _ _ _ _ us hl => match us, hl with | [_, _], _ => rfl
  have g_dLCell : mg "_law_cell" = some (.ref (He.ga K "_law_cell")) := He.glo_ok KX G (cd.fact 21 (f := .glo "_law_cell") rfl)
  obtain ⟨f_dLDraw, F_dLDraw⟩ : ∃ fd, FnP K "_law_draw" "_law_draw" sLDraw (He.ga K "_law_draw") fd := cd.def_ 22 (d := dLDraw) rfl
  have b_dLDraw : Binds K f_dLDraw ["_law_script", "_law_k", "_law_sizes"] [] := F_dLDraw.bindsN fun _ _ _ _ _ _ us hl => match us, hl with | [_, _, _], _ => rfl
  have g_dLDraw : mg "_law_draw" = some (.ref (He.ga K "_law_draw")) := He.glo_ok KX G (cd.fact 22 (f := .glo "_law_draw") rfl)
  obtain ⟨f_dLAbout, F_dLAbout⟩ : ∃ fd, FnP K "_law_about" "_law_about" sLAbout (He.ga K "_law_about") fd := cd.def_ 23 (d := dLAbout) rfl
  have b_dLAbout : Binds K f_dLAbout ["_law_digits"] [] := F_dLAbout.bindsN fun _ _ _ _ _ _ us hl => match us, hl with | [_], _ => rfl
  have g_dLAbout : mg "_law_about" = some (.ref (He.ga K "_law_about")) := He.glo_ok KX G (cd.fact 23 (f := .glo "_law_about") rfl)
  obtain ⟨f_dLComms, F_dLComms⟩ : ∃ fd, FnP K "_law_commands" "_law_commands" sLComms (He.ga K "_law_commands") fd := cd.def_ 24 (d := dLComms) rfl
  have b_dLComms : Binds K f_dLComms ["_law_script", "_law_k"] [] := F_dLComms.bindsN fun _ _ _ _ _ _ us hl => match us, hl with | [_, _], _ => rfl
  have g_dLComms : mg "_law_commands" = some (.ref (He.ga K "_law_commands")) := He.glo_ok KX G (cd.fact 24 (f := .glo "_law_commands") rfl)
  obtain ⟨f_dLMach, F_dLMach⟩ : ∃ fd, FnP K "_law_machine" "_law_machine" sLMach (He.ga K "_law_machine") fd := cd.def_ 25 (d := dLMach) rfl
  have b_dLMach : Binds K f_dLMach ["_law_script", "_law_k"] [] := F_dLMach.bindsN fun _ _ _ _ _ _ us hl => match us, hl with | [_, _], _ => rfl
  have g_dLMach : mg "_law_machine" = some (.ref (He.ga K "_law_machine")) := He.glo_ok KX G (cd.fact 25 (f := .glo "_law_machine") rfl)
  obtain ⟨f_dLaw, F_dLaw⟩ : ∃ fd, FnP K "law" "law" sLaw (He.ga K "law") fd := cd.def_ 26 (d := dLaw) rfl
  have b_dLaw : Binds K f_dLaw ["_law_script"] [] := F_dLaw.bindsN fun _ _ _ _ _ _ us hl => match us, hl with | [_], _ => rfl
  have g_dLaw : mg "law" = some (.ref (He.ga K "law")) := He.glo_ok KX G (cd.fact 26 (f := .glo "law") rfl)
  obtain ⟨f_dBehind, F_dBehind⟩ : ∃ fd, FnP K "behind" "behind" sBehind (He.ga K "behind_machines") fd := cd.def_ 27 (d := dBehind) rfl
  have b_dBehind : Binds K f_dBehind ["command", "state", "argument"] [] := F_dBehind.bindsN fun _ _ _ _ _ _ us hl => match us, hl with | [_, _, _], _ => rfl
  have g_dBehind : mg "behind_machines" = some (.ref (He.ga K "behind_machines")) := He.glo_ok KX G (cd.fact 27 (f := .glo "behind_machines") rfl)
  obtain ⟨f_dDInit, F_dDInit⟩ : ∃ fd, FnP K "__init__" "Draw.__init__" sDInit (He.ma K (He.ga K "Draw") "__init__") fd := cd.def_ 28 (d := dDInit) rfl
  have b_dDInit : Binds K f_dDInit ["self", "row"] [] := F_dDInit.bindsN fun _ _ _ _ _ _ us hl => match us, hl with | [_, _], _ => rfl
  obtain ⟨f_dDChoice, F_dDChoice⟩ : ∃ fd, FnP K "choice" "Draw.choice" sDChoice (He.ma K (He.ga K "Draw") "choice") fd := cd.def_ 29 (d := dDChoice) rfl
  have b_dDChoice : Binds K f_dDChoice ["self", "bound"] [] := F_dDChoice.bindsN fun _ _ _ _ _ _ us hl => match us, hl with | [_, _], _ => rfl
  obtain ⟨f_dDRefuse, F_dDRefuse⟩ : ∃ fd, FnP K "refuse" "Draw.refuse" sDRefuse (He.ma K (He.ga K "Draw") "refuse") fd := cd.def_ 30 (d := dDRefuse) rfl
  have b_dDRefuse : Binds K f_dDRefuse ["self"] [] := F_dDRefuse.bindsN fun _ _ _ _ _ _ us hl => match us, hl with | [_], _ => rfl
  obtain ⟨f_dDKept, F_dDKept⟩ : ∃ fd, FnP K "kept" "Draw.kept" sDKept (He.ma K (He.ga K "Draw") "kept") fd := cd.def_ 31 (d := dDKept) rfl
  have b_dDKept : Binds K f_dDKept ["self", "generator"] [] := F_dDKept.bindsN fun _ _ _ _ _ _ us hl => match us, hl with | [_, _], _ => rfl
  obtain ⟨f_dDValue, F_dDValue⟩ : ∃ fd, FnP K "value" "Draw.value" sDValue (He.ma K (He.ga K "Draw") "value") fd := cd.def_ 32 (d := dDValue) rfl
  have b_dDValue : Binds K f_dDValue ["self", "generator"] [] := F_dDValue.bindsN fun _ _ _ _ _ _ us hl => match us, hl with | [_, _], _ => rfl
  have n_len : mg "len" = none := He.free_ok KX G (cd.fact 30 (f := .free "len") rfl)
  have n_range : mg "range" = none := He.free_ok KX G (cd.fact 31 (f := .free "range") rfl)
  have n_sorted : mg "sorted" = none := He.free_ok KX G (cd.fact 32 (f := .free "sorted") rfl)
  have n_min : mg "min" = none := He.free_ok KX G (cd.fact 33 (f := .free "min") rfl)
  have n_tuple : mg "tuple" = none := He.free_ok KX G (cd.fact 34 (f := .free "tuple") rfl)
  have n_list : mg "list" = none := He.free_ok KX G (cd.fact 35 (f := .free "list") rfl)
  have n_all : mg "all" = none := He.free_ok KX G (cd.fact 36 (f := .free "all") rfl)
  have n_super : mg "super" = none := He.free_ok KX G (cd.fact 37 (f := .free "super") rfl)
  obtain ⟨tV, hV⟩ : ∃ t, mg "VALUES" = some (.int 2000 t) := He.int_ok KX G (cd.fact 38 (f := .int "VALUES" 2000) rfl)
  obtain ⟨tS, hS⟩ : ∃ t, mg "STATES" = some (.int 2000 t) := He.int_ok KX G (cd.fact 39 (f := .int "STATES" 2000) rfl)
  have T : DrawTxt K mg (He.ga K "Draw") (He.ma K (He.ga K "Draw") "choice") (He.ma K (He.ga K "Draw") "refuse") (He.ma K (He.ga K "Draw") "kept") (He.ma K (He.ga K "Draw") "value") :=
    ⟨He.cls_ok (cd.fact 40 (f := .cls "Draw") rfl), He.noat_ok (cd.fact 41 (f := .noat "Draw" "row") rfl), He.noat_ok (cd.fact 42 (f := .noat "Draw" "used") rfl), He.meth_ok (cd.fact 43 (f := .meth "Draw" "choice") rfl), He.meth_ok (cd.fact 44 (f := .meth "Draw" "refuse") rfl), He.meth_ok (cd.fact 45 (f := .meth "Draw" "kept") rfl), He.meth_ok (cd.fact 46 (f := .meth "Draw" "value") rfl), He.glo_ok KX G (cd.fact 29 (f := .glo "Draw") rfl)⟩
  have M : Mk K (He.ga K "Draw") (He.ma K (He.ga K "Draw") "__init__") := He.mkr_ok (cd.fact 47 (f := .mkr "Draw") rfl)
  have TS := stop_txt KX G c
  have e := hfl.symm.trans g_dLaw
  cases e
  have hne : (He.cT K ("in_order", none)).2 ≠ (He.cT K ("does_fail", none)).2 := of_decide_eq_true (He.ba c.x.more).1
  letI tb : Tb := ⟨(He.cT K ("in_order", none)).2⟩
  have mem : ∀ p ∈ [He.cT K ("in_order", none), He.cT K ("does_fail", none)], ∃ q ∈ tf, p = He.cT K q := fun p hp => by
    rcases List.mem_cons.mp hp with rfl | hp
    · exact ⟨_, List.mem_cons_self, rfl⟩
    · rcases List.mem_cons.mp hp with rfl | hp
      · exact ⟨_, List.mem_cons_of_mem _ List.mem_cons_self, rfl⟩
      · cases hp
  have mem0 : He.cT K ("in_order", none) ∈ [He.cT K ("in_order", none), He.cT K ("does_fail", none)] := List.mem_cons_self
  have mem1 : He.cT K ("does_fail", none) ∈ [He.cT K ("in_order", none), He.cT K ("does_fail", none)] := List.mem_cons_of_mem _ List.mem_cons_self
  refine ⟨f_dLaw, [He.cT K ("in_order", none), He.cT K ("does_fail", none)], spLaw (K := K) (He.cT K ("does_fail", none)).2, fun p hp => ?_, fun p hp => ?_, fun p hp => ?_, fun s v => ?_, fun H a ns hl _ hT hS => ?_, fun base KB GB hTB => ?_⟩
  · obtain ⟨q, hq, rfl⟩ := mem p hp
    exact c.x.empty q hq
  · obtain ⟨q, hq, rfl⟩ := mem p hp
    exact c.x.out q hq
  · obtain ⟨q, hq, rfl⟩ := mem p hp
    exact PySem.W.codeHd_of_K KX (c.x.hd q hq)
  · exact FunD.bindsA (ps := ["_law_script"]) F_dLaw (fun _ _ _ _ _ _ us hl => match us, hl with | [_], _ => rfl) s [v] rfl
  · exact ⟨a, ns, rfl, hS, by omega, LamX.TabS.nil (hT _ mem0), ⟨#[], hT _ mem1, trivial⟩, fun _ => rfl⟩
  · have TB0 : LamX.TabB base mg (He.codeOf K ("in_order", none)) Tb.p := hTB _ mem0
    have TB1 : GxR.TabB base mg (He.codeOf K ("does_fail", none)) (He.cT K ("does_fail", none)).2 := ⟨(hTB _ mem1).code, (hTB _ mem1).bm, (hTB _ mem1).gP⟩
    have htop : (((PySem.Challenge.rw_choicerows_k58_whole_no_run_fails_ahead).prog.main.scope.names.lookup ("super" : Str)).isSome = false) := by decide +kernel
    have k_holds := ok_holds (P := (PySem.Challenge.rw_choicerows_k58_whole_no_run_fails_ahead).prog) (w := w) (base := base) F_dHolds g_dHolds
    have k_behind := ok_behind (P := (PySem.Challenge.rw_choicerows_k58_whole_no_run_fails_ahead).prog) (w := w) (mg := mg) (base := base) F_dBehind
    have k_choiceat := ok_choice_at (P := (PySem.Challenge.rw_choicerows_k58_whole_no_run_fails_ahead).prog) (w := w) (mg := mg) (base := base) F_dChoiceAt n_len
    have k_allowed := ok_allowed (P := (PySem.Challenge.rw_choicerows_k58_whole_no_run_fails_ahead).prog) (w := w) (mg := mg) (base := base) F_dAllowed F_dHolds g_dHolds
    have k_dinit := ok_dinit (P := (PySem.Challenge.rw_choicerows_k58_whole_no_run_fails_ahead).prog) (w := w) (mg := mg) (base := base) F_dDInit T
    have k_choice := ok_choice (P := (PySem.Challenge.rw_choicerows_k58_whole_no_run_fails_ahead).prog) (w := w) (mg := mg) (base := base) F_dDChoice T TS htop n_len
    have k_refuse := ok_refuse (P := (PySem.Challenge.rw_choicerows_k58_whole_no_run_fails_ahead).prog) (w := w) (mg := mg) (base := base) F_dDRefuse T TS htop
    have k_valueI := ok_valueI (P := (PySem.Challenge.rw_choicerows_k58_whole_no_run_fails_ahead).prog) (w := w) (mg := mg) (base := base) F_dDValue T k_choice b_dDChoice
    have k_kept := ok_kept (P := (PySem.Challenge.rw_choicerows_k58_whole_no_run_fails_ahead).prog) (w := w) (mg := mg) (base := base) F_dDKept T k_valueI b_dDValue k_refuse b_dDRefuse F_dHolds g_dHolds
    have k_valueK := ok_valueK (P := (PySem.Challenge.rw_choicerows_k58_whole_no_run_fails_ahead).prog) (w := w) (mg := mg) (base := base) F_dDValue T k_kept b_dDKept
    have k_value := ok_value k_valueI k_valueK
    have k_draw := ok_draw (P := (PySem.Challenge.rw_choicerows_k58_whole_no_run_fails_ahead).prog) (w := w) (mg := mg) (base := base) F_dDrawF T TS M k_dinit b_dDInit k_value b_dDValue
    have k_arg := ok_arg_at (P := (PySem.Challenge.rw_choicerows_k58_whole_no_run_fails_ahead).prog) (w := w) (mg := mg) (base := base) F_dArgAt k_draw g_dDrawF F_dDrawF.kp b_dDrawF
    have k_one := ok_one_step (P := (PySem.Challenge.rw_choicerows_k58_whole_no_run_fails_ahead).prog) (w := w) (mg := mg) (base := base) F_dOneStep n_len k_choiceat g_dChoiceAt F_dChoiceAt.kp b_dChoiceAt k_allowed g_dAllowed F_dAllowed.kp b_dAllowed k_arg g_dArgAt F_dArgAt.kp b_dArgAt k_behind g_dBehind F_dBehind.kp b_dBehind
    have k_run := ok_run (P := (PySem.Challenge.rw_choicerows_k58_whole_no_run_fails_ahead).prog) (w := w) (mg := mg) (base := base) F_dRunM n_range k_one g_dOneStep F_dOneStep.kp b_dOneStep
    have k_parts := ok_parts (P := (PySem.Challenge.rw_choicerows_k58_whole_no_run_fails_ahead).prog) (w := w) (mg := mg) (base := base) F_dParts n_list
    have k_check := ok_check (P := (PySem.Challenge.rw_choicerows_k58_whole_no_run_fails_ahead).prog) (w := w) (mg := mg) (base := base) F_dChkMany hV
    have k_order := ok_in_order (P := (PySem.Challenge.rw_choicerows_k58_whole_no_run_fails_ahead).prog) (w := w) (mg := mg) (base := base) F_dInOrder (code_ref (p := ("in_order", none)) F_dInOrder) TB0 n_sorted n_len
    have k_put := ok_put (P := (PySem.Challenge.rw_choicerows_k58_whole_no_run_fails_ahead).prog) (w := w) (mg := mg) (base := base) F_dPutTog k_order g_dInOrder F_dInOrder.kp b_dInOrder
    have k_tri := ok_tri (P := (PySem.Challenge.rw_choicerows_k58_whole_no_run_fails_ahead).prog) (w := w) (mg := mg) (base := base) F_dTriples n_range F_dHolds g_dHolds k_check g_dChkMany F_dChkMany.kp b_dChkMany
    have k_tab0 := ok_tab0 (P := (PySem.Challenge.rw_choicerows_k58_whole_no_run_fails_ahead).prog) (w := w) (mg := mg) (base := base) F_dTableAt n_range n_len k_parts g_dParts F_dParts.kp b_dParts k_tri g_dTriples F_dTriples.kp b_dTriples k_put g_dPutTog F_dPutTog.kp b_dPutTog k_check g_dChkMany F_dChkMany.kp b_dChkMany
    have k_tab1 := ok_tab1 (P := (PySem.Challenge.rw_choicerows_k58_whole_no_run_fails_ahead).prog) (w := w) (mg := mg) (base := base) F_dTableAt n_range n_len k_parts g_dParts F_dParts.kp b_dParts k_tri g_dTriples F_dTriples.kp b_dTriples k_put g_dPutTog F_dPutTog.kp b_dPutTog k_check g_dChkMany F_dChkMany.kp b_dChkMany k_tab0 g_dTableAt b_dTableAt
    have k_tab := ok_tab k_tab0 k_tab1
    have k_table := ok_table (P := (PySem.Challenge.rw_choicerows_k58_whole_no_run_fails_ahead).prog) (w := w) (mg := mg) (base := base) F_dTable k_tab g_dTableAt F_dTableAt.kp b_dTableAt
    have k_less := ok_is_less (P := (PySem.Challenge.rw_choicerows_k58_whole_no_run_fails_ahead).prog) (w := w) (mg := mg) (base := base) F_dIsLess n_len
    have k_steps := ok_steps (P := (PySem.Challenge.rw_choicerows_k58_whole_no_run_fails_ahead).prog) (w := w) (mg := mg) (base := base) F_dStepsFrom n_range n_len k_allowed g_dAllowed F_dAllowed.kp b_dAllowed k_behind g_dBehind F_dBehind.kp b_dBehind
    have k_further := ok_further (P := (PySem.Challenge.rw_choicerows_k58_whole_no_run_fails_ahead).prog) (w := w) (mg := mg) (base := base) F_dFurther n_len k_steps g_dStepsFrom F_dStepsFrom.kp b_dStepsFrom
    have k_layers := ok_layers (P := (PySem.Challenge.rw_choicerows_k58_whole_no_run_fails_ahead).prog) (w := w) (mg := mg) (base := base) F_dLayers n_range n_len hS k_table g_dTable F_dTable.kp b_dTable k_further g_dFurther F_dFurther.kp b_dFurther
    have k_reach := ok_reach (P := (PySem.Challenge.rw_choicerows_k58_whole_no_run_fails_ahead).prog) (w := w) (mg := mg) (base := base) F_dReach n_sorted k_layers g_dLayers F_dLayers.kp b_dLayers
    have k_least := ok_least (P := (PySem.Challenge.rw_choicerows_k58_whole_no_run_fails_ahead).prog) (w := w) (mg := mg) (base := base) F_dLeastRun n_range n_len F_dHolds g_dHolds k_layers g_dLayers F_dLayers.kp b_dLayers
    have k_fails := ok_fails (P := (PySem.Challenge.rw_choicerows_k58_whole_no_run_fails_ahead).prog) (w := w) (mg := mg) (base := base) F_dDoesFail (code_ref (p := ("does_fail", none)) F_dDoesFail) TB1 hne n_len n_all F_dHolds g_dHolds k_run g_dRunM F_dRunM.kp b_dRunM
    have k_cell := ok_cell (P := (PySem.Challenge.rw_choicerows_k58_whole_no_run_fails_ahead).prog) (w := w) (mg := mg) (base := base) F_dLCell n_len
    have k_ldraw := ok_ldraw (P := (PySem.Challenge.rw_choicerows_k58_whole_no_run_fails_ahead).prog) (w := w) (mg := mg) (base := base) F_dLDraw n_range n_len k_cell g_dLCell F_dLCell.kp b_dLCell
    have k_about := ok_about (P := (PySem.Challenge.rw_choicerows_k58_whole_no_run_fails_ahead).prog) (w := w) (mg := mg) (base := base) F_dLAbout
    have k_cmds := ok_cmds (P := (PySem.Challenge.rw_choicerows_k58_whole_no_run_fails_ahead).prog) (w := w) (mg := mg) (base := base) F_dLComms n_range k_ldraw g_dLDraw F_dLDraw.kp b_dLDraw k_about g_dLAbout F_dLAbout.kp b_dLAbout
    have k_mach := ok_machine (P := (PySem.Challenge.rw_choicerows_k58_whole_no_run_fails_ahead).prog) (w := w) (mg := mg) (base := base) F_dLMach n_tuple k_ldraw g_dLDraw F_dLDraw.kp b_dLDraw k_cmds g_dLComms F_dLComms.kp b_dLComms
    exact ok_law F_dLaw n_range n_len n_min n_sorted n_tuple k_mach g_dLMach F_dLMach.kp b_dLMach k_ldraw g_dLDraw F_dLDraw.kp b_dLDraw k_about g_dLAbout F_dLAbout.kp b_dLAbout k_least g_dLeastRun F_dLeastRun.kp b_dLeastRun k_reach g_dReach F_dReach.kp b_dReach k_holds g_dHolds F_dHolds.kp b_dHolds k_run g_dRunM F_dRunM.kp b_dRunM k_fails g_dDoesFail F_dDoesFail.kp b_dDoesFail k_less g_dIsLess F_dIsLess.kp b_dIsLess
end Cr
open PySem PySem.W PySem.Calls PyProof.Rows
theorem PySem.Challenge.cw_choicerows_k58_whole_no_run_fails_ahead_holds : PySem.Challenge.rw_choicerows_k58_whole_no_run_fails_ahead.Holds := by
  w_on; o_law
  refine HandSHeadRun.head_any (r := OpenLaw.row PySem.Challenge.rw_choicerows_k58_whole_no_run_fails_ahead) (q := view (OpenLaw.row PySem.Challenge.rw_choicerows_k58_whole_no_run_fails_ahead).prog [55]) (H := Cr.hook) (ob := Cr.ob) (M := 4000) (loose := Cr.loose) (d := HandSHeadRun.topDef (OpenLaw.row PySem.Challenge.rw_choicerows_k58_whole_no_run_fails_ahead).prog 55) (kwd := []) Cr.ob_eq
    (by kernel_rfl) (fun s => by kernel_rfl) Cr.run (by kernel_rfl) (by kernel_rfl) (by kernel_rfl) (by rfl) (by first | assumption | decide +kernel) (by decide +kernel) ⟨rfl, rfl, rfl, rfl, rfl, by decide +kernel⟩ ?hw ?hc
  case hw => w_witness2
  case hc =>
    refine LamX.walk_ofTsE (l := PySem.Challenge.rw_choicerows_k58_whole_no_run_fails_ahead) (n := 63) (k := 13) (x := "_law_script") (CX := fun _ => L2.CX0) rfl (by decide) (by kernel_rfl) ⟨rfl, by decide, by decide⟩ ?F (fun _ _ _ _ _ z => z)
    intro w mg fa h Y G hmg0
    obtain ⟨K, KX, c⟩ := Y
    have hmg : mg ("law" : PySem.Str) = some (.ref fa) := by
      have e : (HandSHeadRun.topDef (OpenLaw.row PySem.Challenge.rw_choicerows_k58_whole_no_run_fails_ahead).prog 55).name = ("law" : PySem.Str) := by kernel_rfl
      rw [← e]
      exact hmg0
    exact ⟨K, KX, Cr.facts KX G hmg c⟩
