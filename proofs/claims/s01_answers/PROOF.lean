import PyProof.Rows.All
import Wide.All
import OpenK.AllK
import Wide.FinOn
import Open.SpecLaws
import KE.OsHead
import KE.OsGo
import HandS.ForSpec
import HandS.Comp
import HandS.Iter
import HandS.Steps
import HandS.SortRule
import HandS.NamedTupSort
import HandS.TupSets
import PySem.Challenge.RW_barcontest_s01_answers
set_option Elab.async false
set_option linter.all false
set_option maxRecDepth 100000
set_option maxHeartbeats 4000000
/-! BcSort -/
namespace BC
open Kg59

/-! ### the order of rows of whole numbers -/
/-- the lesser row first, place by place; rows as long as one another -/
def lx : List Int → List Int → Bool
  | u :: us, v :: vs => bif u == v then lx us vs else decide (u < v)
  | [], _ :: _ => true
  | _, _ => false

theorem lx_eq {u v : Int} {us vs : List Int} (h : u = v) : lx (u :: us) (v :: vs) = lx us vs := by
  subst h; simp [lx]
theorem lx_ne {u v : Int} {us vs : List Int} (h : u ≠ v) : lx (u :: us) (v :: vs) = decide (u < v) := by
  have : (u == v) = false := by simpa using h
  simp [lx, this]

theorem lx_same : ∀ {a b : List Int}, a.length = b.length → lx a b = false → lx b a = false → a = b
  | [], [], _, _, _ => rfl
  | [], _ :: _, h, _, _ => by simp at h
  | _ :: _, [], h, _, _ => by simp at h
  | u :: us, v :: vs, h, h1, h2 => by
    have hl : us.length = vs.length := by simpa using h
    by_cases e : u = v
    · subst e
      rw [lx_eq rfl] at h1 h2
      rw [lx_same hl h1 h2]
    · rw [lx_ne e] at h1
      rw [lx_ne (Ne.symm e)] at h2
      have := of_decide_eq_false h1
      have := of_decide_eq_false h2
      omega

theorem less_irr : ∀ a : List Nat, less a a = false
  | [] => rfl
  | x :: a => by simp [less, less_irr a]
theorem less_tr : ∀ {a b c : List Nat}, a.length = b.length → b.length = c.length → less a b = true → less b c = true → less a c = true
  | [], [], _, _, _, h, _ => by simp [less] at h
  | x :: a, y :: b, [], _, h, _, _ => by simp at h
  | x :: a, y :: b, z :: c, h1, h2, h3, h4 => by
    have l1 : a.length = b.length := by simpa using h1
    have l2 : b.length = c.length := by simpa using h2
    simp only [less, Bool.or_eq_true, decide_eq_true_eq, Bool.and_eq_true, beq_iff_eq] at h3 h4 ⊢
    rcases h3 with h3 | ⟨e3, h3⟩ <;> rcases h4 with h4 | ⟨e4, h4⟩
    · left; omega
    · left; omega
    · left; omega
    · right; exact ⟨by omega, less_tr l1 l2 h3 h4⟩
theorem less_tot : ∀ {a b : List Nat}, a.length = b.length → less a b = false → less b a = false → a = b
  | [], [], _, _, _ => rfl
  | [], _ :: _, h, _, _ => by simp at h
  | _ :: _, [], h, _, _ => by simp at h
  | x :: a, y :: b, h, h1, h2 => by
    have hl : a.length = b.length := by simpa using h
    simp only [less, Bool.or_eq_false_iff, decide_eq_false_iff_not, Bool.and_eq_false_imp, beq_iff_eq] at h1 h2
    have e : x = y := by omega
    subst e
    rw [less_tot hl (h1.2 rfl) (h2.2 rfl)]
theorem less_asym {a b : List Nat} (hl : a.length = b.length) (h : less a b = true) : less b a = false := by
  cases q : less b a with
  | false => rfl
  | true =>
    have := less_tr hl hl.symm h q
    rw [less_irr] at this
    cases this

/-! ### the specification's sorting -/
theorem put_perm (key : Nat → List Nat) (x : Nat) : ∀ l : List Nat, (put key x l).Perm (x :: l)
  | [] => List.Perm.refl _
  | y :: l => by
    unfold put
    split
    · exact List.Perm.refl _
    · exact ((put_perm key x l).cons y).trans (List.Perm.swap x y l)
theorem fold_perm (key : Nat → List Nat) : ∀ (l acc : List Nat), (l.foldl (fun s x => put key x s) acc).Perm (acc ++ l)
  | [], acc => by simp
  | x :: l, acc => by
    rw [List.foldl_cons]
    refine (fold_perm key l _).trans ?_
    refine ((put_perm key x acc).append_right l).trans ?_
    simpa using (List.perm_middle (a := x) (l₁ := acc) (l₂ := l)).symm
theorem sorted_perm (key : Nat → List Nat) (l : List Nat) : (Kg59.sorted key l).Perm l := by
  simpa [Kg59.sorted] using fold_perm key l []

def Asc (key : Nat → List Nat) (l : List Nat) : Prop := l.Pairwise fun i j => less (key j) (key i) = false
theorem put_asc {key : Nat → List Nat} {d : Nat} (x : Nat) : ∀ {l : List Nat}, (∀ i ∈ x :: l, (key i).length = d) → Asc key l → Asc key (put key x l)
  | [], _, _ => by simp [put, Asc]
  | y :: l, hd, h => by
    have hh := List.pairwise_cons.mp h
    have hx := hd x (by simp)
    have hy := hd y (by simp)
    have hl : ∀ z ∈ l, (key z).length = d := fun z hz => hd z (by simp [hz])
    unfold put
    split
    · rename_i c
      refine List.pairwise_cons.mpr ⟨fun z hz => ?_, h⟩
      rcases List.mem_cons.mp hz with rfl | hz
      · exact less_asym (by rw [hx, hy]) c
      · cases q : less (key z) (key x) with
        | false => rfl
        | true =>
          have := less_tr (by rw [hl z hz, hx]) (by rw [hx, hy]) q c
          rw [hh.1 z hz] at this
          cases this
    · rename_i c
      refine List.pairwise_cons.mpr ⟨fun z hz => ?_, put_asc x (fun i hi => hd i (by rcases List.mem_cons.mp hi with rfl | hi <;> simp [*])) hh.2⟩
      rcases List.mem_cons.mp ((put_perm key x l).mem_iff.mp hz) with rfl | hz
      · simpa using c
      · exact hh.1 z hz
theorem fold_asc {key : Nat → List Nat} {d : Nat} : ∀ (l : List Nat) {acc : List Nat}, (∀ i ∈ acc ++ l, (key i).length = d) → Asc key acc → Asc key (l.foldl (fun s x => put key x s) acc)
  | [], _, _, h => h
  | x :: l, acc, hd, h => by
    rw [List.foldl_cons]
    refine fold_asc (d := d) l (fun i hi => ?_) (put_asc (d := d) x (fun i hi => hd i ?_) h)
    · rcases List.mem_append.mp hi with hi | hi
      · rcases List.mem_cons.mp ((put_perm key x acc).mem_iff.mp hi) with rfl | hi
        · exact hd _ (by simp)
        · exact hd _ (by simp [hi])
      · exact hd _ (by simp [hi])
    · rcases List.mem_cons.mp hi with rfl | hi <;> simp [*]
theorem sorted_asc {key : Nat → List Nat} {d : Nat} {l : List Nat} (hd : ∀ i ∈ l, (key i).length = d) : Asc key (Kg59.sorted key l) := fold_asc l (by simpa using hd) List.Pairwise.nil

/-- what Python's sorted makes of the rows is the specification's order, row by row -/
theorem rows_sorted {key : Nat → List Nat} {row : Nat → List Int} {l : List Nat} {d e : Nat} (hd : ∀ i ∈ l, (key i).length = d) (he : ∀ i ∈ l, (row i).length = e)
    (hk : ∀ i ∈ l, ∀ j ∈ l, lx (row i) (row j) = less (key i) (key j)) {out : List (List Int)} (hp : out.Perm (l.map row)) (hs : out.Pairwise fun u v => lx v u = false) :
    out = (Kg59.sorted key l).map row := by
  have sp := sorted_perm key l
  have p2 : ((Kg59.sorted key l).map row).Perm (l.map row) := sp.map row
  refine List.Perm.eq_of_pairwise (le := fun u v => lx v u = false) (fun a b ha hb h1 h2 => ?_) hs ?_ (hp.trans p2.symm)
  · obtain ⟨i, hi, rfl⟩ := List.mem_map.mp (hp.mem_iff.mp ha)
    obtain ⟨j, hj, rfl⟩ := List.mem_map.mp (p2.mem_iff.mp hb)
    exact lx_same (by rw [he i hi, he j hj]) h2 h1
  · rw [List.pairwise_map]
    refine List.Pairwise.imp_of_mem (fun {i j} hi hj h => ?_) (sorted_asc hd)
    rw [hk j (sp.mem_iff.mp hj) i (sp.mem_iff.mp hi)]
    exact h
end BC
/-! BcMath1 -/
/-! What a lift's attempts tell. -/
namespace BC
open Kg59

def lastW (x : Lift) : Nat := (x.tries.getLast?.map Try.weight).getD 0
def lastG (x : Lift) : Nat := (x.tries.getLast?.map Try.good).getD 0
def needs (x : Lift) : Nat := if lastG x = 1 then lastW x + 1 else lastW x
/-- the moment of the last of the first m attempts, 0 of none -/
def mom (x : Lift) (m : Nat) : Nat := if m = 0 then 0 else ((x.tries[m - 1]?).map fun t => t.at_ + 1).getD 0

theorem needs_some {x : Lift} {t : Try} (h : x.tries.getLast? = some t) : needs x = behind t := by
  simp [needs, lastG, lastW, h, behind]
theorem needs_none {x : Lift} (h : x.tries.getLast? = none) : needs x = 0 := by
  simp [needs, lastG, lastW, h]
theorem last_at {l : List Try} : l.getLast? = l[l.length - 1]? := List.getLast?_eq_getElem?
theorem lastW_at {x : Lift} {t : Try} (h : x.tries[x.tries.length - 1]? = some t) : lastW x = t.weight := by
  simp [lastW, last_at, h]
theorem lastG_at {x : Lift} {t : Try} (h : x.tries[x.tries.length - 1]? = some t) : lastG x = t.good := by
  simp [lastG, last_at, h]
theorem last_some {x : Lift} (h : x.tries.length ≠ 0) : ∃ t, x.tries[x.tries.length - 1]? = some t := by
  have : x.tries.length - 1 < x.tries.length := by omega
  exact ⟨_, List.getElem?_eq_getElem this⟩
theorem lastW_nil {x : Lift} (h : x.tries.length = 0) : lastW x = 0 := by
  have : x.tries = [] := List.length_eq_zero_iff.mp h
  simp [lastW, this]
theorem lastG_nil {x : Lift} (h : x.tries.length = 0) : lastG x = 0 := by
  have : x.tries = [] := List.length_eq_zero_iff.mp h
  simp [lastG, this]
theorem mom_pos {x : Lift} {m : Nat} {t : Try} (h0 : m ≠ 0) (h : x.tries[m - 1]? = some t) : mom x m = t.at_ + 1 := by
  simp [mom, h0, h]
theorem mom_len (x : Lift) : mom x x.tries.length = ((x.tries.getLast?).map fun t => t.at_ + 1).getD 0 := by
  unfold mom
  split
  · rename_i h
    have : x.tries = [] := List.length_eq_zero_iff.mp h
    simp [this]
  · rw [last_at]

/-! ### the best one -/
def better (b : Option Try) (t : Try) : Option Try := match b with
  | some x => if x.weight < t.weight then some t else some x
  | none => some t
def bestOf (l : List Try) : Option Try := (l.filter fun t => t.good == 1).foldl better none
theorem best_of (x : Lift) : Kg59.best x = bestOf x.tries := rfl
def bp : Option Try → Nat × Nat
  | some t => (t.weight, t.at_ + 1)
  | none => (0, 0)
theorem take_one {α : Type} {l : List α} {i : Nat} {x : α} (h : l[i]? = some x) : l.take (i + 1) = l.take i ++ [x] := by
  rw [List.take_succ, h]; rfl
theorem best_step {l : List Try} {i : Nat} {t : Try} (h : l[i]? = some t) (hw : 1 ≤ t.weight) :
    bp (bestOf (l.take (i + 1))) = if t.good = 1 ∧ (bp (bestOf (l.take i))).1 < t.weight then (t.weight, t.at_ + 1) else bp (bestOf (l.take i)) := by
  rw [take_one h]
  unfold bestOf
  rw [List.filter_append, List.foldl_append]
  generalize List.foldl better none (List.filter (fun t => t.good == 1) (List.take i l)) = b
  by_cases g : t.good = 1
  · have e : List.filter (fun t : Try => t.good == 1) [t] = [t] := by simp [g]
    rw [e]
    show bp (better b t) = _
    cases b with
    | none => rw [if_pos ⟨g, by show 0 < t.weight; omega⟩]; rfl
    | some x =>
      unfold better
      by_cases c : x.weight < t.weight
      · rw [if_pos ⟨g, c⟩]; simp only [if_pos c]; rfl
      · rw [if_neg (fun z => c z.2)]; simp only [if_neg c]
  · have e : List.filter (fun t : Try => t.good == 1) [t] = [] := by simp [g]
    rw [e, if_neg (fun z => g z.1)]
    rfl
def bestP (x : Lift) : Nat × Nat := bp (bestOf x.tries)
theorem bestP_pos {x : Lift} (h : ∀ t ∈ x.tries, 1 ≤ t.weight) : (Kg59.best x).isSome = decide (0 < (bestP x).1) := by
  rw [best_of]
  unfold bestP
  have key : ∀ (l : List Try) (b : Option Try), (∀ t ∈ l, 1 ≤ t.weight) → (∀ t, b = some t → 1 ≤ t.weight) → ∀ t, l.foldl better b = some t → 1 ≤ t.weight := by
    intro l
    induction l with
    | nil => intro b _ hb t e; exact hb t e
    | cons y l ih =>
      intro b hl hb t e
      refine ih (better b y) (fun t m => hl t (by simp [m])) (fun t e => ?_) t e
      have hy := hl y (by simp)
      cases b with
      | none => simp [better] at e; subst e; exact hy
      | some z =>
        have hz := hb z rfl
        simp only [better] at e
        split at e <;> (cases e; assumption)
  cases q : bestOf x.tries with
  | none => rfl
  | some t =>
    have q2 : 0 < t.weight := key _ none (fun t m => h t (List.mem_filter.mp m).1) (fun _ e => by cases e) t q
    show true = decide (0 < t.weight)
    rw [decide_eq_true q2]

/-! ### one attempt more; the last one turned round -/
def taken (x : Lift) (g c : Nat) : Lift := ⟨x.tries ++ [⟨x.next, g, c⟩], behind ⟨x.next, g, c⟩, 0⟩
theorem needs_taken (x : Lift) (g c n m : Nat) : needs ⟨x.tries ++ [⟨x.next, g, c⟩], n, m⟩ = behind ⟨x.next, g, c⟩ := needs_some (by simp)
def turnTry (t : Try) : Try := { t with good := 1 - t.good }
def turned (x : Lift) (t : Try) : Lift := ⟨x.tries.dropLast ++ [turnTry t], if x.changes = 0 then behind (turnTry t) else max x.next (behind (turnTry t)), x.changes⟩
theorem set_last {α β : Type} (f : α → β) : ∀ {l : List α} {u : α}, l ≠ [] → (l.map f).set (l.length - 1) (f u) = (l.dropLast ++ [u]).map f
  | [], _, h => absurd rfl h
  | [a], u, _ => rfl
  | a :: b :: l, u, _ => by
    have ih := set_last f (l := b :: l) (u := u) (by simp)
    show f a :: ((b :: l).map f).set ((b :: l).length - 1) (f u) = f a :: ((b :: l).dropLast ++ [u]).map f
    rw [ih]
theorem map_turn {β : Type} (f : Try → β) (hf : ∀ t, f (turnTry t) = f t) {l : List Try} {t : Try} (h : l.getLast? = some t) : (l.dropLast ++ [turnTry t]).map f = l.map f := by
  obtain ⟨l', rfl⟩ := List.getLast?_eq_some_iff.mp h
  simp [hf]
end BC
/-! BcMath2 -/
/-! A contest's state: reading a lift, putting one, the program's own names for what the state tells. -/
namespace BC
open Kg59

abbrev NW := Option (Nat × Nat)
def liftI (s : State) : Int := if s.begun = true then (s.lift : Int) else -1
def nwI : NW → Int
  | none => -1
  | some z => z.1
def nwK : NW → Int
  | none => -1
  | some z => z.2
def optI : Option Nat → Int
  | none => -1
  | some i => i
/-- who tried last in the lift that's on -/
def triedLast (s : State) : NW → Option Nat
  | none => none
  | some z => if s.begun = true ∧ z.2 = s.lift then some z.1 else none
def barOf (s : State) (nw : NW) : Nat := match triedLast s nw with
  | some j => lastW (s.liftOf j s.lift)
  | none => 0
def noted (s : State) (i g : Nat) : State := { (s.put i s.lift (taken (s.liftOf i s.lift) g s.count)) with count := s.count + 1, bar := (s.liftOf i s.lift).next, last := some i }
theorem tried_is (s : State) (i g : Nat) : s.tried i g = (noted s i g).settle := rfl
def fresh (l : List Int) : State := ⟨l.map fun z => ⟨z.toNat, ⟨[], 0, 0⟩, ⟨[], 0, 0⟩⟩, false, 0, 0, 0, none⟩

theorem tried_int (s : State) (nw : NW) : (if nwK nw = liftI s then nwI nw else -1) = optI (triedLast s nw) := by
  cases nw with
  | none => unfold triedLast optI nwI; split <;> rfl
  | some z =>
    unfold triedLast nwK liftI nwI
    cases hb : s.begun with
    | false => 
      have : ¬ ((z.2 : Int) = -1) := by omega
      simp [this, optI]
    | true =>
      by_cases e : z.2 = s.lift
      · simp [e, optI]
      · have : ¬ ((z.2 : Int) = (s.lift : Int)) := by omega
        simp [e, this, optI]
theorem liftI_wait (s : State) : (liftI s = -1) ↔ s.begun = false := by
  unfold liftI
  cases s.begun with
  | false => simp
  | true => simp
theorem liftI_on {s : State} (h : s.begun = true) : liftI s = (s.lift : Int) := by unfold liftI; rw [if_pos h]
theorem liftI_over (s : State) : (!decide (liftI s = -1) && !decide (liftI s = 2)) = (s.begun && !decide (s.lift = 2)) := by
  unfold liftI
  cases s.begun with
  | false => simp
  | true =>
    have h1 : ¬ ((s.lift : Int) = -1) := by omega
    have h2 : ((s.lift : Int) = 2) ↔ s.lift = 2 := by omega
    simp [h1, h2]

/-! ### put -/
section
variable {s : State} {i k i' k' : Nat} {x : Lift}
theorem put_get (j : Nat) : (s.put i k x).lifters[j]? = (s.lifters[j]?).map fun l => if j = i then l.set k x else l := by
  unfold State.put
  simp [List.getElem?_zipIdx]
  cases s.lifters[j]? with
  | none => rfl
  | some l => rfl
theorem put_len : (s.put i k x).lifters.length = s.lifters.length := by
  unfold State.put; simp
theorem put_lift : (s.put i k x).lift = s.lift := rfl
theorem put_begun : (s.put i k x).begun = s.begun := rfl
theorem put_count : (s.put i k x).count = s.count := rfl
theorem set_team (l : Lifter) : (l.set k x).team = l.team := by unfold Lifter.set; split <;> rfl
theorem put_team : (s.put i k x).lifters.map Lifter.team = s.lifters.map Lifter.team := by
  apply List.ext_getElem?
  intro j
  rw [List.getElem?_map, List.getElem?_map, put_get]
  cases s.lifters[j]? with
  | none => rfl
  | some l =>
    show some (if j = i then l.set k x else l).team = some l.team
    split
    · rw [set_team]
    · rfl
theorem set_of (l : Lifter) (hk : k < 2) (hk' : k' < 2) : (l.set k x).of k' = if k' = k then x else l.of k' := by
  unfold Lifter.set Lifter.of
  have : k = 0 ∨ k = 1 := by omega
  have : k' = 0 ∨ k' = 1 := by omega
  rcases ‹k = 0 ∨ k = 1› with rfl | rfl <;> rcases ‹k' = 0 ∨ k' = 1› with rfl | rfl <;> rfl
theorem of_put (hk : k < 2) (hk' : k' < 2) : (s.put i k x).liftOf i' k' = if i' = i ∧ i' < s.lifters.length ∧ k' = k then x else s.liftOf i' k' := by
  unfold State.liftOf
  rw [put_get]
  by_cases h : i' < s.lifters.length
  · rw [List.getElem?_eq_getElem h]
    show (if i' = i then (s.lifters[i']).set k x else s.lifters[i']).of k' = if i' = i ∧ i' < s.lifters.length ∧ k' = k then x else (s.lifters[i']).of k'
    by_cases e : i' = i
    · rw [if_pos e, set_of _ hk hk']
      by_cases e2 : k' = k
      · rw [if_pos e2, if_pos ⟨e, h, e2⟩]
      · rw [if_neg e2, if_neg fun z => e2 z.2.2]
    · rw [if_neg e, if_neg fun z => e z.1]
  · rw [if_neg fun z => h z.2.1, List.getElem?_eq_none (by omega)]
    rfl
theorem of_put_same (hk : k < 2) (h : i < s.lifters.length) : (s.put i k x).liftOf i k = x := by
  rw [of_put hk hk, if_pos ⟨rfl, h, rfl⟩]
theorem of_put_other (hk : k < 2) (hk' : k' < 2) (h : ¬ (i' = i ∧ k' = k)) : (s.put i k x).liftOf i' k' = s.liftOf i' k' := by
  rw [of_put hk hk', if_neg fun z => h ⟨z.1, z.2.2⟩]
theorem fresh_len (l : List Int) : (fresh l).lifters.length = l.length := List.length_map ..
theorem fresh_of (l : List Int) (i k : Nat) : (fresh l).liftOf i k = ⟨[], 0, 0⟩ := by
  unfold State.liftOf fresh
  simp only [List.getElem?_map]
  cases l[i]? with
  | none => rfl
  | some z =>
    show Lifter.of _ k = _
    unfold Lifter.of
    split <;> rfl
end
end BC
/-! BcMath3 -/
/-! What holds of a contest between two calls, and that every call keeps it. -/
namespace BC
open Kg59

structure Cap (c : Nat) (x : Lift) : Prop where
  len : x.tries.length ≤ 3
  chg : x.changes ≤ 2
  nxt : x.next ≤ 500 + x.tries.length
  each : ∀ t ∈ x.tries, 1 ≤ t.weight ∧ t.weight ≤ 502 ∧ t.good ≤ 2 ∧ t.at_ < c
  last : ∀ t, x.tries.getLast? = some t → t.weight + 1 ≤ 500 + x.tries.length
def Newest (s : State) : NW → Prop
  | none => s.count = 0
  | some z => z.1 < s.lifters.length ∧ z.2 < 2 ∧ ∃ t, (s.liftOf z.1 z.2).tries.getLast? = some t ∧ t.at_ + 1 = s.count ∧
    ∀ i k t', i < s.lifters.length → k < 2 → (s.liftOf i k).tries.getLast? = some t' → t'.at_ + 1 = s.count → i = z.1 ∧ k = z.2
structure Good (s : State) (nw : NW) : Prop where
  n24 : s.lifters.length ≤ 24
  lift2 : s.lift ≤ 2
  idle : s.begun = false → s.lift = 0 ∧ s.bar = 0 ∧ s.last = none ∧ nw = none ∧ ∀ i k, k < 2 → i < s.lifters.length → (s.liftOf i k).tries = [] ∧ (s.liftOf i k).changes = 0
  both : s.begun = false → ∀ i, i < s.lifters.length → ((s.liftOf i 0).next = 0 ↔ (s.liftOf i 1).next = 0)
  asked : s.begun = true → ∀ i k, k < 2 → i < s.lifters.length → 1 ≤ (s.liftOf i k).next
  pos : s.begun = true → 0 < s.lifters.length
  cap : ∀ i k, k < 2 → i < s.lifters.length → Cap s.count (s.liftOf i k)
  now : s.begun = true → s.lift < 2 → s.left ≠ []
  later : s.lift = 0 → ∀ i, i < s.lifters.length → (s.liftOf i 1).tries = []
  over : s.lift = 2 → ∀ i, i < s.lifters.length → (s.liftOf i 1).tries.length = 3
  newest : Newest s nw
  lastOk : s.begun = true → s.lift < 2 → s.last = triedLast s nw
  barOk : s.begun = true → s.lift < 2 → s.bar = barOf s nw

/-! ### a lift's bounds -/
theorem behind_le (t : Try) : behind t ≤ t.weight + 1 := by unfold behind; split <;> omega
theorem le_behind (t : Try) : t.weight ≤ behind t := by unfold behind; split <;> omega
theorem Cap.mono {c c' : Nat} {x : Lift} (h : Cap c x) (hc : c ≤ c') : Cap c' x :=
  ⟨h.len, h.chg, h.nxt, fun t m => ⟨(h.each t m).1, (h.each t m).2.1, (h.each t m).2.2.1, Nat.lt_of_lt_of_le (h.each t m).2.2.2 hc⟩, h.last⟩
theorem cap_none (c n : Nat) (h : n ≤ 500) : Cap c ⟨[], n, 0⟩ := ⟨by simp, by simp, by simpa using h, by simp, by simp⟩
theorem Cap.change {c n m : Nat} {x : Lift} (h : Cap c x) (hn : n ≤ 500) (hm : m ≤ 2) : Cap c { x with next := n, changes := m } :=
  ⟨h.len, hm, Nat.le_trans hn (Nat.le_add_right _ _), h.each, h.last⟩
theorem Cap.take {c g : Nat} {x : Lift} (h : Cap c x) (h1 : 1 ≤ x.next) (h3 : x.tries.length < 3) (hg : g ≤ 2) : Cap (c + 1) (taken x g c) := by
  have hn := h.nxt
  have b1 := behind_le ⟨x.next, g, c⟩
  have b1' : behind ⟨x.next, g, c⟩ ≤ x.next + 1 := b1
  refine ⟨?_, Nat.zero_le _, ?_, fun t m => ?_, fun t e => ?_⟩
  · show (x.tries ++ [_]).length ≤ 3
    simp; omega
  · show behind ⟨x.next, g, c⟩ ≤ 500 + (x.tries ++ [_]).length
    simp; omega
  · rcases List.mem_append.mp (show t ∈ x.tries ++ [⟨x.next, g, c⟩] from m) with m | m
    · have := h.each t m
      exact ⟨this.1, this.2.1, this.2.2.1, by omega⟩
    · have e : t = ⟨x.next, g, c⟩ := by simpa using m
      subst e
      exact ⟨h1, by show x.next ≤ 502; omega, hg, Nat.lt_succ_self c⟩
  · have e : t = ⟨x.next, g, c⟩ := by
      have e : (x.tries ++ [(⟨x.next, g, c⟩ : Try)]).getLast? = some t := e
      simpa using e.symm
    subst e
    show x.next + 1 ≤ 500 + (x.tries ++ [_]).length
    simp; omega
theorem Cap.turn {c : Nat} {x : Lift} {t : Try} (h : Cap c x) (ht : x.tries.getLast? = some t) (hg : t.good ≤ 1) : Cap c (turned x t) := by
  obtain ⟨l, el⟩ := List.getLast?_eq_some_iff.mp ht
  have hl := h.last t ht
  have b1 : behind (turnTry t) ≤ t.weight + 1 := behind_le (turnTry t)
  have hn := h.nxt
  have en : (turned x t).tries.length = x.tries.length := by
    show (x.tries.dropLast ++ [_]).length = _
    rw [el]; simp
  refine ⟨by rw [en]; exact h.len, h.chg, ?_, fun u m => ?_, fun u e => ?_⟩
  · rw [en]
    show (if x.changes = 0 then behind (turnTry t) else max x.next (behind (turnTry t))) ≤ _
    split <;> omega
  · have tm : t ∈ x.tries := by rw [el]; simp
    rcases List.mem_append.mp (show u ∈ x.tries.dropLast ++ [turnTry t] from m) with m | m
    · exact h.each u (List.dropLast_subset _ m)
    · have e : u = turnTry t := by simpa using m
      subst e
      have := h.each t tm
      exact ⟨this.1, this.2.1, by show 1 - t.good ≤ 2; omega, this.2.2.2⟩
  · have e : u = turnTry t := by
      have e : (x.tries.dropLast ++ [turnTry t]).getLast? = some u := e
      simpa using e.symm
    subst e
    rw [en]
    exact hl
theorem turned_next {x : Lift} {t : Try} (h : 1 ≤ t.weight) : 1 ≤ (turned x t).next := by
  have := le_behind (turnTry t)
  have e : (turnTry t).weight = t.weight := rfl
  show 1 ≤ (if x.changes = 0 then behind (turnTry t) else max x.next (behind (turnTry t)))
  split <;> omega
theorem turned_len {x : Lift} {t : Try} (ht : x.tries.getLast? = some t) : (turned x t).tries.length = x.tries.length := by
  obtain ⟨l, el⟩ := List.getLast?_eq_some_iff.mp ht
  show (x.tries.dropLast ++ [_]).length = _
  rw [el]; simp
theorem turned_last {x : Lift} {t : Try} : (turned x t).tries.getLast? = some (turnTry t) := by
  show (x.tries.dropLast ++ [turnTry t]).getLast? = _
  simp

/-! ### who's left, who's up -/
section
variable {s : State} {nw : NW}
theorem mem_left {i : Nat} : i ∈ s.left ↔ i < s.lifters.length ∧ (s.liftOf i s.lift).tries.length < 3 := by
  unfold State.left
  rw [List.mem_filter, List.mem_range, decide_eq_true_eq]
  exact Iff.rfl
theorem left_nil (h : s.left = []) {i : Nat} (hi : i < s.lifters.length) : 3 ≤ (s.liftOf i s.lift).tries.length := by
  by_cases c : (s.liftOf i s.lift).tries.length < 3
  · have := mem_left.mpr ⟨hi, c⟩
    rw [h] at this
    cases this
  · omega
theorem of_two (s : State) (i : Nat) : s.liftOf i 2 = s.liftOf i 1 := rfl
theorem Good.left_over (G : Good s nw) (h : s.lift = 2) : s.left = [] := by
  refine List.eq_nil_iff_forall_not_mem.mpr fun i m => ?_
  obtain ⟨hi, h3⟩ := mem_left.mp m
  rw [h, of_two, G.over h i hi] at h3
  omega
theorem order_perm (s : State) : s.order.Perm s.left := sorted_perm s.key s.left
theorem mem_order {i : Nat} : i ∈ s.order ↔ i < s.lifters.length ∧ (s.liftOf i s.lift).tries.length < 3 := ((order_perm s).mem_iff).trans mem_left
theorem Good.up_some (G : Good s nw) (hb : s.begun = true) (hl : s.lift < 2) : ∃ i r, s.order = i :: r ∧ s.up = some i ∧ i < s.lifters.length ∧ (s.liftOf i s.lift).tries.length < 3 := by
  cases e : s.order with
  | nil =>
    have := (order_perm s).length_eq
    rw [e] at this
    exact absurd (List.length_eq_zero_iff.mp this.symm) (G.now hb hl)
  | cons i r =>
    have m : i ∈ s.order := by rw [e]; simp
    exact ⟨i, r, rfl, by unfold State.up; rw [if_pos hb, e]; rfl, (mem_order.mp m).1, (mem_order.mp m).2⟩
theorem Good.up_none (G : Good s nw) (h : s.begun = false ∨ s.lift = 2) : s.up = none := by
  unfold State.up
  rcases h with h | h
  · rw [h]; rfl
  · have : s.order = [] := by
      have := (order_perm s).length_eq
      rw [G.left_over h] at this
      exact List.length_eq_zero_iff.mp this
    rw [this]
    split <;> rfl
theorem order_len (G : Good s nw) : s.order.length ≤ 24 := by
  rw [(order_perm s).length_eq]
  unfold State.left
  refine Nat.le_trans (List.length_filter_le _ _) ?_
  rw [List.length_range]
  exact G.n24
theorem on_or {s : State} {nw : NW} (G : Good s nw) (h : (s.begun && !decide (s.lift = 2)) = true) : s.begun = true ∧ s.lift < 2 := by
  rw [Bool.and_eq_true] at h
  have := G.lift2
  have h2 : ¬ s.lift = 2 := by simpa using h.2
  exact ⟨h.1, by omega⟩
theorem off_or {s : State} (h : (s.begun && !decide (s.lift = 2)) = false) : s.begun = false ∨ s.lift = 2 := by
  cases hb : s.begun with
  | false => exact .inl rfl
  | true => rw [hb] at h; right; simpa using h

/-! ### the newest attempt -/
theorem head_flat {α : Type} {f : Nat → List α} {v : α} {i : Nat} (hi : f i = [v]) : ∀ {l : List Nat}, i ∈ l → (∀ j ∈ l, j ≠ i → f j = []) → (l.flatMap f).head? = some v
  | [], h, _ => by cases h
  | a :: l, h, hj => by
    rw [List.flatMap_cons]
    by_cases e : a = i
    · subst e; rw [hi]; rfl
    · rw [hj a (by simp) e, List.nil_append]
      exact head_flat hi (by simpa [Ne.symm e] using h) fun j m => hj j (by simp [m])
theorem lastTry_none (h : s.count = 0) : s.lastTry = none := by
  unfold State.lastTry
  have : ((List.range s.lifters.length).flatMap fun i => [0, 1].filterMap fun k => ((s.liftOf i k).tries.getLast?).bind fun t => if t.at_ + 1 = s.count then some (i, (k, t)) else none) = [] := by
    refine List.flatMap_eq_nil_iff.mpr fun i _ => List.filterMap_eq_nil_iff.mpr fun k _ => ?_
    cases (s.liftOf i k).tries.getLast? with
    | none => rfl
    | some t =>
      show (if t.at_ + 1 = s.count then some (i, (k, t)) else none) = none
      rw [if_neg (by omega)]
  rw [this]
  rfl
theorem lastTry_some {z : Nat × Nat} (h : Newest s (some z)) : ∃ t, (s.liftOf z.1 z.2).tries.getLast? = some t ∧ s.lastTry = some (z.1, (z.2, t)) := by
  obtain ⟨hi, hk, t, ht, ha, hu⟩ := h
  refine ⟨t, ht, ?_⟩
  unfold State.lastTry
  have none_of : ∀ i k, i < s.lifters.length → k < 2 → ¬ (i = z.1 ∧ k = z.2) → (((s.liftOf i k).tries.getLast?).bind fun t => if t.at_ + 1 = s.count then some (i, (k, t)) else none) = none := fun i k h1 h2 h3 => by
    cases e : (s.liftOf i k).tries.getLast? with
    | none => rfl
    | some u =>
      show (if u.at_ + 1 = s.count then some (i, (k, u)) else none) = none
      exact if_neg fun c => h3 (hu i k u h1 h2 e c)
  have some_of : (((s.liftOf z.1 z.2).tries.getLast?).bind fun t => if t.at_ + 1 = s.count then some (z.1, (z.2, t)) else none) = some (z.1, (z.2, t)) := by
    rw [ht]
    exact if_pos ha
  refine head_flat (i := z.1) ?_ (List.mem_range.mpr hi) fun j m ne => ?_
  · have : z.2 = 0 ∨ z.2 = 1 := by omega
    rcases this with e | e
    · have n1 := none_of z.1 1 hi (by decide) (fun c => by omega)
      rw [e] at some_of
      simp only [List.filterMap_cons, some_of, n1, List.filterMap_nil, e]
    · have n0 := none_of z.1 0 hi (by decide) (fun c => by omega)
      rw [e] at some_of
      simp only [List.filterMap_cons, some_of, n0, List.filterMap_nil, e]
  · have hj := List.mem_range.mp m
    have n0 := none_of j 0 hj (by decide) (fun c => ne c.1)
    have n1 := none_of j 1 hj (by decide) (fun c => ne c.1)
    simp only [List.filterMap_cons, n0, n1, List.filterMap_nil]

/-! ### the calls keep it -/
theorem good_fresh {l : List Int} (h : l.length ≤ 24) : Good (fresh l) none := by
  have fl := fresh_len l
  refine ⟨by rw [fl]; exact h, Nat.zero_le _, fun _ => ⟨rfl, rfl, rfl, rfl, fun i k _ _ => (by rw [fresh_of]; exact ⟨rfl, rfl⟩)⟩, fun _ i _ => (by rw [fresh_of, fresh_of]), fun h => (by cases h), fun h => (by cases h),
    fun i k _ _ => (by rw [fresh_of]; exact cap_none _ 0 (by omega)), fun h => (by cases h), fun _ i _ => (by rw [fresh_of]), fun h => (by cases h), rfl, fun h => (by cases h), fun h => (by cases h)⟩
theorem Good.start (G : Good s nw) (hb : s.begun = false) (hp : 0 < s.lifters.length) (ha : ∀ i, i < s.lifters.length → (s.liftOf i 0).next ≠ 0) : Good { s with begun := true } nw := by
  obtain ⟨h0, hbar, hlast, hnw, hidle⟩ := G.idle hb
  have ho : ∀ i k, ({ s with begun := true } : State).liftOf i k = s.liftOf i k := fun _ _ => rfl
  refine ⟨G.n24, G.lift2, fun h => (by cases h), fun h => (by cases h), fun _ i k hk hi => ?_, fun _ => hp, G.cap, fun _ _ e => ?_, G.later, G.over, ?_, fun _ _ => ?_, fun _ _ => ?_⟩
  · rw [ho]
    have : k = 0 ∨ k = 1 := by omega
    have n0 := ha i hi
    have b := G.both hb i hi
    rcases this with rfl | rfl
    · omega
    · have : (s.liftOf i 1).next ≠ 0 := fun z => n0 (b.mpr z)
      omega
  · have := left_nil (s := { s with begun := true }) e (i := 0) hp
    rw [ho] at this
    have h1 := (hidle 0 s.lift (by omega) hp).1
    have h2 : (s.liftOf 0 s.lift).tries.length = 0 := by rw [h1]; rfl
    have h3 : 3 ≤ (s.liftOf 0 s.lift).tries.length := this
    omega
  · rw [hnw]
    have := G.newest
    rw [hnw] at this
    exact this
  · rw [hnw]; exact hlast
  · rw [hnw]; exact hbar
/-- a lift changed that keeps its attempts' moments -/
theorem newest_put {i k : Nat} {x : Lift} (hk : k < 2) (hx : x.tries.getLast?.map Try.at_ = (s.liftOf i k).tries.getLast?.map Try.at_) (h : Newest s nw) : Newest (s.put i k x) nw := by
  have eq : ∀ i' k', k' < 2 → ((s.put i k x).liftOf i' k').tries.getLast?.map Try.at_ = (s.liftOf i' k').tries.getLast?.map Try.at_ := fun i' k' hk' => by
    rw [of_put hk hk']
    split
    · rename_i c
      rw [c.1, c.2.2]
      exact hx
    · rfl
  cases nw with
  | none => exact h
  | some z =>
    obtain ⟨h1, h2, t, ht, ha, hu⟩ := h
    have e := eq z.1 z.2 h2
    rw [ht] at e
    cases q : ((s.put i k x).liftOf z.1 z.2).tries.getLast? with
    | none => rw [q] at e; cases e
    | some t1 =>
      rw [q] at e
      have e1 : t1.at_ = t.at_ := by simpa using e
      refine ⟨by rw [put_len]; exact h1, h2, t1, q, by rw [e1]; exact ha, fun i' k' t' hi' hk' ht' ha' => ?_⟩
      rw [put_len] at hi'
      have e := eq i' k' hk'
      rw [ht'] at e
      cases q2 : (s.liftOf i' k').tries.getLast? with
      | none => rw [q2] at e; cases e
      | some t2 =>
        rw [q2] at e
        have e2 : t'.at_ = t2.at_ := by simpa using e
        exact hu i' k' t2 hi' hk' q2 (by rw [← e2]; exact ha')
theorem barOf_put {i k : Nat} {x : Lift} (hk : k < 2) (hl : s.lift < 2) (hx : lastW x = lastW (s.liftOf i k)) : barOf (s.put i k x) nw = barOf s nw := by
  have et : triedLast (s.put i k x) nw = triedLast s nw := by cases nw <;> rfl
  unfold barOf
  rw [et]
  cases triedLast s nw with
  | none => rfl
  | some j =>
    show lastW ((s.put i k x).liftOf j s.lift) = _
    rw [of_put hk hl]
    split
    · rename_i c
      rw [hx, c.1, c.2.2]
    · rfl
/-- a lift changed with as many attempts, as heavy, at the same moments -/
theorem Good.put {i k : Nat} {x : Lift} (G : Good s nw) (hb : s.begun = true) (hk : k < 2) (hi : i < s.lifters.length) (hl : x.tries.length = (s.liftOf i k).tries.length)
    (ha : x.tries.getLast?.map Try.at_ = (s.liftOf i k).tries.getLast?.map Try.at_) (hw : lastW x = lastW (s.liftOf i k)) (hc : Cap s.count x) (h1 : 1 ≤ x.next) : Good (s.put i k x) nw := by
  have el : ∀ i' k', k' < 2 → ((s.put i k x).liftOf i' k').tries.length = (s.liftOf i' k').tries.length := fun i' k' hk' => by
    rw [of_put hk hk']
    split
    · rename_i c
      rw [c.1, c.2.2]; exact hl
    · rfl
  have nb : ∀ {p : Prop}, (s.put i k x).begun = false → p := fun h => by rw [put_begun, hb] at h; cases h
  refine ⟨by rw [put_len]; exact G.n24, G.lift2, fun h => nb h, fun h => nb h, fun _ i' k' hk' hi' => ?_, fun _ => by rw [put_len]; exact G.pos hb, fun i' k' hk' hi' => ?_, fun _ h2 e => ?_, fun h i' hi' => ?_, fun h i' hi' => ?_, newest_put hk ha G.newest, fun h h2 => ?_, fun h h2 => ?_⟩
  · rw [put_len] at hi'
    rw [of_put hk hk']
    split
    · exact h1
    · exact G.asked hb i' k' hk' hi'
  · rw [put_len] at hi'
    rw [of_put hk hk']
    split
    · exact hc
    · exact G.cap i' k' hk' hi'
  · refine G.now hb h2 (List.eq_nil_iff_forall_not_mem.mpr fun j m => ?_)
    obtain ⟨hj, h3⟩ := mem_left.mp m
    have := left_nil e (i := j) (by rw [put_len]; exact hj)
    rw [put_lift, el j s.lift h2] at this
    omega
  · rw [put_len] at hi'
    have := el i' 1 (by decide)
    rw [G.later h i' hi'] at this
    exact List.length_eq_zero_iff.mp this
  · rw [put_len] at hi'
    rw [el i' 1 (by decide)]
    exact G.over h i' hi'
  · rw [show (s.put i k x).last = s.last from rfl, G.lastOk hb h2]
    cases nw <;> rfl
  · exact (G.barOk hb h2).trans (barOf_put hk (show s.lift < 2 from h2) hw).symm
end
end BC
/-! BcMath4 -/
/-! The calls that change a contest: they keep what holds; what the specification answers. -/
namespace BC
open Kg59

section
variable {s : State} {nw : NW}
theorem noted_of {i g : Nat} (i' k' : Nat) : (noted s i g).liftOf i' k' = (s.put i s.lift (taken (s.liftOf i s.lift) g s.count)).liftOf i' k' := rfl
theorem noted_len {i g : Nat} : (noted s i g).lifters.length = s.lifters.length := put_len (s := s)
theorem settle_stay {t : State} (h : t.left ≠ []) : t.settle = t := by
  unfold State.settle
  rw [if_neg fun c => h (by simpa using c.1)]
theorem settle_on {t : State} (h : t.left = []) (hl : t.lift < 2) : t.settle = { t with lift := t.lift + 1, bar := 0, last := none } := by
  unfold State.settle
  rw [if_pos ⟨by rw [h]; rfl, hl⟩]
theorem Good.tried {i g : Nat} (G : Good s nw) (hb : s.begun = true) (hl : s.lift < 2) (hi : i < s.lifters.length) (h3 : (s.liftOf i s.lift).tries.length < 3) (hg : g ≤ 2) : Good (s.tried i g) (some (i, s.lift)) := by
  rw [tried_is]
  have hn : (noted s i g).lifters.length = s.lifters.length := noted_len
  have h1 := G.asked hb i s.lift hl hi
  have cap : ∀ i' k', k' < 2 → i' < s.lifters.length → Cap (s.count + 1) ((noted s i g).liftOf i' k') := fun i' k' hk' hi' => by
    rw [noted_of, of_put hl hk']
    split
    · exact (G.cap i s.lift hl hi).take h1 h3 hg
    · exact (G.cap i' k' hk' hi').mono (Nat.le_succ _)
  have asked : ∀ i' k', k' < 2 → i' < s.lifters.length → 1 ≤ ((noted s i g).liftOf i' k').next := fun i' k' hk' hi' => by
    rw [noted_of, of_put hl hk']
    split
    · exact Nat.le_trans h1 (le_behind ⟨(s.liftOf i s.lift).next, g, s.count⟩)
    · exact G.asked hb i' k' hk' hi'
  have same : (noted s i g).liftOf i s.lift = taken (s.liftOf i s.lift) g s.count := by rw [noted_of, of_put_same hl hi]
  have lastT : ((noted s i g).liftOf i s.lift).tries.getLast? = some ⟨(s.liftOf i s.lift).next, g, s.count⟩ := by
    rw [same]
    show ((s.liftOf i s.lift).tries ++ [_]).getLast? = _
    simp
  have newest : ∀ i' k' t', i' < s.lifters.length → k' < 2 → ((noted s i g).liftOf i' k').tries.getLast? = some t' → t'.at_ + 1 = s.count + 1 → i' = i ∧ k' = s.lift := fun i' k' t' hi' hk' ht' ha => by
    rw [noted_of, of_put hl hk'] at ht'
    split at ht'
    · rename_i c
      exact ⟨c.1, c.2.2⟩
    · have := ((G.cap i' k' hk' hi').each t' (List.mem_of_getLast? ht')).2.2.2
      omega
  have later : s.lift = 0 → ∀ i', i' < s.lifters.length → ((noted s i g).liftOf i' 1).tries = [] := fun h i' hi' => by
    rw [noted_of, of_put_other hl (by decide) (fun c => by omega)]
    exact G.later h i' hi'
  have nb : ∀ {p : Prop}, s.begun = false → p := fun h => by rw [hb] at h; cases h
  by_cases e : (noted s i g).left = []
  · rw [settle_on e hl]
    have all3 : ∀ i', i' < s.lifters.length → ((noted s i g).liftOf i' s.lift).tries.length = 3 := fun i' hi' => by
      have a := left_nil e (i := i') (by rw [hn]; exact hi')
      have b := (cap i' s.lift hl hi').len
      have a : 3 ≤ ((noted s i g).liftOf i' s.lift).tries.length := a
      omega
    have tl : triedLast { noted s i g with lift := (noted s i g).lift + 1, bar := 0, last := none } (some (i, s.lift)) = none := by
      unfold triedLast
      exact if_neg fun c => by
        have c2 : s.lift = s.lift + 1 := c.2
        omega
    refine ⟨by rw [show ({ noted s i g with lift := (noted s i g).lift + 1, bar := 0, last := none } : State).lifters.length = _ from hn]; exact G.n24, hl, fun h => nb h, fun h => nb h, fun _ i' k' hk' hi' => asked i' k' hk' (by rw [← hn]; exact hi'), fun _ => ?_, fun i' k' hk' hi' => cap i' k' hk' (by rw [← hn]; exact hi'), fun _ h2 z => ?_, fun h => ?_, fun h i' hi' => ?_, ?_, fun _ _ => tl.symm, fun _ _ => ?_⟩
    · have := G.pos hb
      rw [← hn] at this
      exact this
    · have h2 : s.lift + 1 < 2 := h2
      have l0 : s.lift = 0 := by omega
      have hp := G.pos hb
      have a := left_nil z (i := 0) (by rw [← hn] at hp; exact hp)
      have a : 3 ≤ ((noted s i g).liftOf 0 (s.lift + 1)).tries.length := a
      rw [l0] at a
      have l1 := later l0 0 hp
      have l2 : ((noted s i g).liftOf 0 (0 + 1)).tries.length = 0 := by rw [show ((noted s i g).liftOf 0 (0 + 1)).tries = [] from l1]; rfl
      omega
    · have h : s.lift + 1 = 0 := h
      omega
    · have h : s.lift + 1 = 2 := h
      have h1 : s.lift = 1 := by omega
      have a := all3 i' (by rw [← hn]; exact hi')
      rw [h1] at a
      exact a
    · exact ⟨by rw [show ({ noted s i g with lift := (noted s i g).lift + 1, bar := 0, last := none } : State).lifters.length = _ from hn]; exact hi, hl, _, lastT, rfl, fun i' k' t' hi' hk' => newest i' k' t' (by rw [← hn]; exact hi') hk'⟩
    · unfold barOf
      rw [tl]
  · rw [settle_stay e]
    have tl : triedLast (noted s i g) (some (i, s.lift)) = some i := if_pos ⟨hb, rfl⟩
    refine ⟨by rw [hn]; exact G.n24, G.lift2, fun h => nb h, fun h => nb h, fun _ i' k' hk' hi' => asked i' k' hk' (by rw [← hn]; exact hi'), fun _ => by rw [hn]; exact G.pos hb, fun i' k' hk' hi' => cap i' k' hk' (by rw [← hn]; exact hi'), fun _ _ => e, fun h i' hi' => later h i' (by rw [← hn]; exact hi'), fun h => ?_, ?_, fun _ _ => tl.symm, fun _ _ => ?_⟩
    · have h : s.lift = 2 := h
      omega
    · exact ⟨by rw [hn]; exact hi, hl, _, lastT, rfl, fun i' k' t' hi' hk' => newest i' k' t' (by rw [← hn]; exact hi') hk'⟩
    · unfold barOf
      rw [tl]
      show (s.liftOf i s.lift).next = lastW ((noted s i g).liftOf i s.lift)
      unfold lastW
      rw [lastT]
      rfl
theorem Good.ask {i a b : Nat} (G : Good s nw) (hb : s.begun = false) (hi : i < s.lifters.length) (ha : 1 ≤ a) (ha5 : a ≤ 500) (hb1 : 1 ≤ b) (hb5 : b ≤ 500) : Good ((s.put i 0 ⟨[], a, 0⟩).put i 1 ⟨[], b, 0⟩) nw := by
  obtain ⟨h0, hbar, hlast, hnw, hidle⟩ := G.idle hb
  have hn : ((s.put i 0 ⟨[], a, 0⟩).put i 1 ⟨[], b, 0⟩).lifters.length = s.lifters.length := put_len.trans put_len
  have of : ∀ i' k', k' < 2 → ((s.put i 0 ⟨[], a, 0⟩).put i 1 ⟨[], b, 0⟩).liftOf i' k' = if i' = i ∧ i' < s.lifters.length then (if k' = 0 then ⟨[], a, 0⟩ else ⟨[], b, 0⟩) else s.liftOf i' k' := fun i' k' hk' => by
    rw [of_put (by decide) hk', of_put (by decide) hk', put_len]
    have : k' = 0 ∨ k' = 1 := by omega
    by_cases c : i' = i ∧ i' < s.lifters.length
    · rw [if_pos c]
      rcases this with rfl | rfl
      · rw [if_neg (by simp), if_pos ⟨c.1, c.2, rfl⟩, if_pos rfl]
      · rw [if_pos ⟨c.1, c.2, rfl⟩, if_neg (by simp)]
    · rw [if_neg c, if_neg fun z => c ⟨z.1, z.2.1⟩, if_neg fun z => c ⟨z.1, z.2.1⟩]
  have nb : ∀ {p : Prop}, s.begun = true → p := fun h => by rw [hb] at h; cases h
  have empty : ∀ i' k', k' < 2 → i' < s.lifters.length → (((s.put i 0 ⟨[], a, 0⟩).put i 1 ⟨[], b, 0⟩).liftOf i' k').tries = [] ∧ (((s.put i 0 ⟨[], a, 0⟩).put i 1 ⟨[], b, 0⟩).liftOf i' k').changes = 0 := fun i' k' hk' hi' => by
    rw [of i' k' hk']
    split
    · split <;> exact ⟨rfl, rfl⟩
    · exact hidle i' k' hk' hi'
  refine ⟨by rw [hn]; exact G.n24, G.lift2, fun _ => ⟨h0, hbar, hlast, hnw, fun i' k' hk' hi' => empty i' k' hk' (by rw [← hn]; exact hi')⟩, fun _ i' hi' => ?_, fun h => nb h, fun h => nb h, fun i' k' hk' hi' => ?_, fun h => nb h, fun _ i' hi' => (empty i' 1 (by decide) (by rw [← hn]; exact hi')).1, fun h => ?_, ?_, fun h => nb h, fun h => nb h⟩
  · rw [hn] at hi'
    rw [of i' 0 (by decide), of i' 1 (by decide)]
    split
    · show a = 0 ↔ b = 0
      omega
    · exact G.both hb i' hi'
  · rw [hn] at hi'
    rw [of i' k' hk']
    split
    · split
      · exact cap_none _ a ha5
      · exact cap_none _ b hb5
    · exact G.cap i' k' hk' hi'
  · have h : s.lift = 2 := h
    omega
  · rw [hnw]
    have z := G.newest
    rw [hnw] at z
    exact z
theorem Good.change {i n : Nat} (G : Good s nw) (hb : s.begun = true) (hl : s.lift < 2) (hi : i < s.lifters.length) (h1 : 1 ≤ n) (h5 : n ≤ 500) (hc : (s.liftOf i s.lift).changes < 2) :
    Good (s.put i s.lift { s.liftOf i s.lift with next := n, changes := (s.liftOf i s.lift).changes + 1 }) nw :=
  G.put hb hl hi rfl rfl rfl ((G.cap i s.lift hl hi).change h5 hc) h1
theorem Good.turn {z : Nat × Nat} {t : Try} (G : Good s (some z)) (ht : (s.liftOf z.1 z.2).tries.getLast? = some t) (hg : t.good ≤ 1) : Good (s.put z.1 z.2 (turned (s.liftOf z.1 z.2) t)) (some z) := by
  have hb : s.begun = true := by
    cases q : s.begun with
    | true => rfl
    | false =>
      have := (G.idle q).2.2.2.1
      cases this
  obtain ⟨hi, hk, _⟩ := G.newest
  refine G.put hb hk hi (turned_len ht) ?_ ?_ ((G.cap z.1 z.2 hk hi).turn ht hg) (turned_next ((G.cap z.1 z.2 hk hi).each t (List.mem_of_getLast? ht)).1)
  · rw [turned_last, ht]; rfl
  · unfold lastW
    rw [turned_last, ht]; rfl
theorem Good.newest_begun {z : Nat × Nat} (G : Good s (some z)) : s.begun = true := by
  cases q : s.begun with
  | true => rfl
  | false =>
    have := (G.idle q).2.2.2.1
    cases this
theorem Good.tried_lt (G : Good s nw) {j : Nat} (h : triedLast s nw = some j) : j < s.lifters.length := by
  cases nw with
  | none => cases h
  | some z =>
    have h : (if s.begun = true ∧ z.2 = s.lift then some z.1 else none) = some j := h
    by_cases c : s.begun = true ∧ z.2 = s.lift
    · rw [if_pos c] at h
      have e : z.1 = j := Option.some.inj h
      rw [← e]
      exact G.newest.1
    · rw [if_neg c] at h
      exact absurd h (by simp)
end
end BC
/-! BcMath5 -/
/-! The order of calling, the change's test, by rows of whole numbers. -/
namespace BC
open Kg59

theorem lx_iff {u v : Int} {us vs : List Int} : lx (u :: us) (v :: vs) = true ↔ u < v ∨ (u = v ∧ lx us vs = true) := by
  by_cases e : u = v
  · subst e
    rw [lx_eq rfl]
    constructor
    · intro h; exact .inr ⟨rfl, h⟩
    · rintro (h | h)
      · omega
      · exact h.2
  · rw [lx_ne e, decide_eq_true_eq]
    constructor
    · intro h; exact .inl h
    · rintro (h | h)
      · exact h
      · exact absurd h.1 e
theorem lx_nil : lx [] [] = true ↔ False := by simp [lx]
theorem less_iff {u v : Nat} {us vs : List Nat} : less (u :: us) (v :: vs) = true ↔ u < v ∨ (u = v ∧ less us vs = true) := by
  simp [less]
theorem less_nil : less [] [] = true ↔ False := by simp [less]
theorem bool_iff {a b : Bool} (h : a = true ↔ b = true) : a = b := by
  cases a <;> cases b <;> simp_all
/-- moments told from 1 on, from 0 on -/
theorem row_less4 {a b c d a' b' c' d' c0 c0' : Nat} (h : b = b' → (c < c' ↔ c0 < c0') ∧ (c = c' ↔ c0 = c0')) :
    lx [(a : Int), b, c, d] [(a' : Int), b', c', d'] = less [a, b, c0, d] [a', b', c0', d'] := by
  apply bool_iff
  simp only [lx_iff, less_iff, lx_nil, less_nil]
  have e1 : ((a : Int) < a') ↔ a < a' := by omega
  have e2 : ((a : Int) = a') ↔ a = a' := by omega
  have e3 : ((b : Int) < b') ↔ b < b' := by omega
  have e4 : ((b : Int) = b') ↔ b = b' := by omega
  have e5 : ((c : Int) < c') ↔ c < c' := by omega
  have e6 : ((c : Int) = c') ↔ c = c' := by omega
  have e7 : ((d : Int) < d') ↔ d < d' := by omega
  rw [e1, e2, e3, e4, e5, e6, e7]
  by_cases hb : b = b'
  · obtain ⟨h1, h2⟩ := h hb
    rw [h1, h2]
    simp
  · simp [hb]
theorem row_less3 {b c d b' c' d' c0 c0' : Nat} (h : b = b' → (c < c' ↔ c0 < c0') ∧ (c = c' ↔ c0 = c0')) :
    lx [(b : Int), c, d] [(b' : Int), c', d'] = less [b, c0, d] [b', c0', d'] := by
  have := row_less4 (a := 0) (a' := 0) (d := d) (d' := d') h
  simpa [lx, less] using this

section
variable {s : State} {nw : NW}
def rowOf (s : State) (i : Nat) : List Int := [((s.liftOf i s.lift).next : Int), ((s.liftOf i s.lift).tries.length : Int), (mom (s.liftOf i s.lift) (s.liftOf i s.lift).tries.length : Int), (i : Int)]
def at0 (l : List Try) : Nat := (l.getLast?.map Try.at_).getD 0
def at1 (l : List Try) : Nat := (l.getLast?.map fun t => t.at_ + 1).getD 0
theorem at_cmp {l m : List Try} (h : l.length = m.length) : (at1 l < at1 m ↔ at0 l < at0 m) ∧ (at1 l = at1 m ↔ at0 l = at0 m) := by
  unfold at0 at1
  cases e : l.getLast? with
  | none =>
    have e1 : l = [] := List.getLast?_eq_none_iff.mp e
    subst e1
    have e2 : m = [] := List.length_eq_zero_iff.mp h.symm
    subst e2
    simp
  | some t =>
    cases e' : m.getLast? with
    | none =>
      have e1 : m = [] := List.getLast?_eq_none_iff.mp e'
      subst e1
      have e2 : l = [] := List.length_eq_zero_iff.mp h
      subst e2
      cases e
    | some u => simp
theorem row_key (i j : Nat) : lx (rowOf s i) (rowOf s j) = less (s.key i) (s.key j) := by
  unfold rowOf State.key
  rw [mom_len, mom_len]
  exact row_less4 fun h => at_cmp h
theorem order_rows {out : List (List Int)} (hp : out.Perm (s.left.map (rowOf s))) (hs : out.Pairwise fun u v => lx v u = false) : out = s.order.map (rowOf s) :=
  rows_sorted (d := 4) (e := 4) (fun _ _ => rfl) (fun _ _ => rfl) (fun i _ j _ => row_key i j) hp hs

/-! ### a change -/
/-- who tried last, without that attempt, comes ahead -/
def ahead (s : State) (j i : Nat) : Bool := lx [(((s.liftOf j s.lift).tries.length - 1 : Nat) : Int), (mom (s.liftOf j s.lift) ((s.liftOf j s.lift).tries.length - 1) : Int), (j : Int)]
  [((s.liftOf i s.lift).tries.length : Int), (mom (s.liftOf i s.lift) (s.liftOf i s.lift).tries.length : Int), (i : Int)]
theorem mom_drop (x : Lift) : mom x (x.tries.length - 1) = at1 x.tries.dropLast := by
  unfold mom at1
  rw [last_at, List.length_dropLast]
  by_cases h : x.tries.length - 1 = 0
  · rw [if_pos h]
    have : x.tries.dropLast = [] := List.length_eq_zero_iff.mp (by rw [List.length_dropLast]; exact h)
    rw [this]
    rfl
  · rw [if_neg h]
    rw [List.getElem?_dropLast, if_pos (by omega)]
theorem ahead_is (j i : Nat) : ahead s j i = less [(s.liftOf j s.lift).tries.length - 1, at0 (s.liftOf j s.lift).tries.dropLast, j] [(s.liftOf i s.lift).tries.length, at0 (s.liftOf i s.lift).tries, i] := by
  unfold ahead
  rw [mom_drop, mom_len]
  refine row_less3 fun h => at_cmp ?_
  rw [List.length_dropLast]
  exact h
/-- what the program asks -/
def mayP (s : State) (nw : NW) (i n : Nat) : Bool :=
  if n < needs (s.liftOf i s.lift) then false
  else if n = barOf s nw then (match triedLast s nw with | none => true | some j => ahead s j i) else decide (barOf s nw < n)
def wasM (o : Option Try) (n : Nat) : Bool := match o with
  | some t => decide (behind t ≤ n)
  | none => true
def lastM (s : State) (o : Option Nat) (i : Nat) : Bool := match o with
  | none => true
  | some j => less [(s.liftOf j s.lift).tries.length - 1, at0 (s.liftOf j s.lift).tries.dropLast, j] [(s.liftOf i s.lift).tries.length, at0 (s.liftOf i s.lift).tries, i]
theorem mayAsk_eq (i n : Nat) : s.mayAsk i n = (wasM (s.liftOf i s.lift).tries.getLast? n && (decide (s.bar < n) || (n == s.bar && lastM s s.last i))) := rfl
theorem may_is (G : Good s nw) (hb : s.begun = true) (hl : s.lift < 2) (i n : Nat) : s.mayAsk i n = mayP s nw i n := by
  rw [mayAsk_eq]
  unfold mayP
  have e1 : wasM (s.liftOf i s.lift).tries.getLast? n = decide (¬ n < needs (s.liftOf i s.lift)) := by
    unfold wasM
    cases e : (s.liftOf i s.lift).tries.getLast? with
    | none => rw [needs_none e]; simp
    | some t => rw [needs_some e]; simp
  rw [e1, G.lastOk hb hl, G.barOk hb hl]
  by_cases c : n < needs (s.liftOf i s.lift)
  · rw [if_pos c]; simp [c]
  · rw [if_neg c]
    by_cases c2 : n = barOf s nw
    · rw [if_pos c2]
      have e4 : decide (barOf s nw < n) = false := by simp; omega
      have e3 : (n == barOf s nw) = true := by simpa using c2
      rw [e4, e3]
      simp only [c, not_false_eq_true, decide_true, Bool.true_and, Bool.false_or]
      cases triedLast s nw with
      | none => rfl
      | some j => exact (ahead_is j i).symm
    · rw [if_neg c2]
      have e3 : (n == barOf s nw) = false := by simpa using c2
      simp [c, e3]
end
end BC
/-! BcMath6 -/
/-! The specification's answers, way by way. -/
namespace BC
open Kg59

section
variable {s : State} {nw : NW}
theorem spec_order_off (h : s.begun = false ∨ s.lift = 2) : spec s .order = (s, num (-4)) := by
  show (s, if s.begun = false ∨ s.lift = 2 then num (-4) else _) = _
  rw [if_pos h]
theorem spec_order_on (h : ¬ (s.begun = false ∨ s.lift = 2)) : spec s .order = (s, ⟨s.order.length, whole (s.order.flatMap fun i => [i, (s.liftOf i s.lift).next])⟩) := by
  show (s, if s.begun = false ∨ s.lift = 2 then num (-4) else _) = _
  rw [if_neg h]
theorem spec_try_bad {g : Int} (h : within g 0 2 = false) : spec s (.try_ g) = (s, num (-1)) := by
  show (if within g 0 2 = false then (s, num (-1)) else _) = _
  rw [if_pos h]
theorem spec_try_off {g : Int} (h : within g 0 2 = true) (hu : s.up = none) : spec s (.try_ g) = (s, num (-4)) := by
  simp only [spec, h, hu]
  rfl
theorem spec_try_on {g : Int} {i : Nat} (h : within g 0 2 = true) (hu : s.up = some i) : spec s (.try_ g) = (s.tried i g.toNat, ⟨i, whole [(s.liftOf i s.lift).next, (s.tried i g.toNat).lift]⟩) := by
  simp only [spec, h, hu]
  rfl
theorem spec_rev_none (h : s.lastTry = none) : spec s .reverse = (s, num (-4)) := by
  simp only [spec, h]
theorem spec_rev_pass {i k : Nat} {t : Try} (h : s.lastTry = some (i, (k, t))) (hg : t.good = 2) : spec s .reverse = (s, num (-5)) := by
  simp only [spec, h, hg]
  rfl
theorem spec_rev_on {i k : Nat} {t : Try} (h : s.lastTry = some (i, (k, t))) (hg : ¬ t.good = 2) : spec s .reverse = (s.put i k (turned (s.liftOf i k) t), ⟨i, [((1 - t.good : Nat) : Int)]⟩) := by
  simp only [spec, h]
  rw [if_neg hg]
  rfl
theorem spec_change_bad {i n : Int} (h : (isLifter s i && within n 1 500) = false) : spec s (.change i n) = (s, num (-1)) := by
  simp only [spec, h]
  rfl
theorem spec_change_off {i n : Int} (h : (isLifter s i && within n 1 500) = true) (ho : s.begun = false ∨ s.lift = 2) : spec s (.change i n) = (s, num (-4)) := by
  simp only [spec, h]
  rw [if_neg (by simp), if_pos ho]
theorem spec_change_done {i n : Int} (h : (isLifter s i && within n 1 500) = true) (ho : ¬ (s.begun = false ∨ s.lift = 2)) (h3 : 3 ≤ (s.liftOf i.toNat s.lift).tries.length) : spec s (.change i n) = (s, num (-5)) := by
  simp only [spec, h]
  rw [if_neg (by simp), if_neg ho]
  exact if_pos h3
theorem spec_change_often {i n : Int} (h : (isLifter s i && within n 1 500) = true) (ho : ¬ (s.begun = false ∨ s.lift = 2)) (h3 : ¬ 3 ≤ (s.liftOf i.toNat s.lift).tries.length) (hc : 2 ≤ (s.liftOf i.toNat s.lift).changes) : spec s (.change i n) = (s, num (-6)) := by
  simp only [spec, h]
  rw [if_neg (by simp), if_neg ho]
  refine (if_neg h3).trans ?_
  exact if_pos hc
theorem spec_change_not {i n : Int} (h : (isLifter s i && within n 1 500) = true) (ho : ¬ (s.begun = false ∨ s.lift = 2)) (h3 : ¬ 3 ≤ (s.liftOf i.toNat s.lift).tries.length) (hc : ¬ 2 ≤ (s.liftOf i.toNat s.lift).changes) (hm : s.mayAsk i.toNat n.toNat = false) : spec s (.change i n) = (s, num (-7)) := by
  simp only [spec, h]
  rw [if_neg (by simp), if_neg ho]
  refine (if_neg h3).trans ?_
  refine (if_neg hc).trans ?_
  exact if_pos hm
def changed (s : State) (i n : Nat) : State := s.put i s.lift { s.liftOf i s.lift with next := n, changes := (s.liftOf i s.lift).changes + 1 }
theorem spec_change_on {i n : Int} {j : Nat} (h : (isLifter s i && within n 1 500) = true) (ho : ¬ (s.begun = false ∨ s.lift = 2)) (h3 : ¬ 3 ≤ (s.liftOf i.toNat s.lift).tries.length) (hc : ¬ 2 ≤ (s.liftOf i.toNat s.lift).changes) (hm : s.mayAsk i.toNat n.toNat = true)
    (hj : (changed s i.toNat n.toNat).up = some j) : spec s (.change i n) = (changed s i.toNat n.toNat, ⟨((s.liftOf i.toNat s.lift).changes + 1 : Nat), [(j : Int), (((changed s i.toNat n.toNat).liftOf j (changed s i.toNat n.toNat).lift).next : Int)]⟩) := by
  simp only [spec, h]
  rw [if_neg (by simp), if_neg ho]
  refine (if_neg h3).trans ?_
  refine (if_neg hc).trans ?_
  refine (if_neg (by rw [hm]; simp)).trans ?_
  unfold changed at hj ⊢
  rw [hj]
theorem not_off (hb : s.begun = true) (hl : s.lift < 2) : ¬ (s.begun = false ∨ s.lift = 2) := by
  rintro (h | h)
  · rw [hb] at h; cases h
  · omega
end
end BC
/-! BcMath7 -/
/-! The specification's answers of begin, ask, start, card. -/
namespace BC
open Kg59

section
variable {s : State} {nw : NW}
def teamsOk (l : List Int) : Bool := l.all (fun z => within z 0 20) && (decide (1 ≤ l.length) && decide (l.length ≤ 24))
theorem spec_begin_bad {l : List Int} (h : teamsOk l = false) : spec s (.begin_ l) = (s, num (-1)) := by
  show (if teamsOk l = false then _ else _) = _
  rw [if_pos h]
theorem spec_begin_ok {l : List Int} (h : teamsOk l = true) : spec s (.begin_ l) = (fresh l, num l.length) := by
  show (if teamsOk l = false then _ else _) = _
  rw [if_neg (by rw [h]; simp)]
  rfl
theorem spec_ask_bad {i a b : Int} (h : (isLifter s i && (within a 1 500 && within b 1 500)) = false) : spec s (.ask i a b) = (s, num (-1)) := by
  simp only [spec, h]
  rfl
theorem spec_ask_begun {i a b : Int} (h : (isLifter s i && (within a 1 500 && within b 1 500)) = true) (hb : s.begun = true) : spec s (.ask i a b) = (s, num (-3)) := by
  simp only [spec, h, hb]
  rfl
theorem spec_ask_ok {i a b : Int} (h : (isLifter s i && (within a 1 500 && within b 1 500)) = true) (hb : s.begun = false) : spec s (.ask i a b) = ((s.put i.toNat 0 ⟨[], a.toNat, 0⟩).put i.toNat 1 ⟨[], b.toNat, 0⟩, num 0) := by
  simp only [spec, h, hb]
  rfl
theorem spec_start_none (h : s.lifters.length = 0) : spec s .start = (s, num (-2)) := by
  have : s.lifters = [] := List.length_eq_zero_iff.mp h
  simp only [spec]
  rw [if_pos this]
theorem spec_start_begun (h : s.lifters.length ≠ 0) (hb : s.begun = true) : spec s .start = (s, num (-3)) := by
  have : s.lifters ≠ [] := fun z => h (by rw [z]; rfl)
  simp only [spec]
  rw [if_neg this, if_pos hb]
def unasked (s : State) : Bool := s.lifters.any fun l => l.first.next == 0
theorem spec_start_unasked (h : s.lifters.length ≠ 0) (hb : s.begun = false) (hu : unasked s = true) : spec s .start = (s, num (-4)) := by
  have : s.lifters ≠ [] := fun z => h (by rw [z]; rfl)
  simp only [spec]
  rw [if_neg this, if_neg (by rw [hb]; simp)]
  exact if_pos hu
theorem spec_start_ok (h : s.lifters.length ≠ 0) (hb : s.begun = false) (hu : unasked s = false) : spec s .start = ({ s with begun := true }, called { s with begun := true }) := by
  have : s.lifters ≠ [] := fun z => h (by rw [z]; rfl)
  simp only [spec]
  rw [if_neg this, if_neg (by rw [hb]; simp)]
  exact if_neg (by rw [show (s.lifters.any fun l => l.first.next == 0) = false from hu]; simp)
theorem first_next {i : Nat} (hi : i < s.lifters.length) : (s.liftOf i 0).next = (s.lifters[i]).first.next := by
  unfold State.liftOf
  rw [List.getElem?_eq_getElem hi]
  rfl
theorem unasked_of {i : Nat} (hi : i < s.lifters.length) (h : (s.liftOf i 0).next = 0) : unasked s = true := by
  unfold unasked
  rw [List.any_eq_true]
  exact ⟨s.lifters[i], List.getElem_mem hi, by rw [← first_next hi, h]; rfl⟩
theorem asked_of (h : ∀ i, i < s.lifters.length → (s.liftOf i 0).next ≠ 0) : unasked s = false := by
  unfold unasked
  rw [List.any_eq_false]
  intro l m
  obtain ⟨i, hi, rfl⟩ := List.mem_iff_getElem.mp m
  have := h i hi
  rw [first_next hi] at this
  simpa using this
theorem asked_all (h : unasked s = false) {i : Nat} (hi : i < s.lifters.length) : (s.liftOf i 0).next ≠ 0 := fun z => by
  rw [unasked_of hi z] at h
  cases h
theorem spec_up : spec s .up = (s, called s) := rfl
theorem spec_card_bad {i k : Int} (h : (isLifter s i && within k 0 1) = false) : spec s (.card i k) = (s, num (-1)) := by
  simp only [spec, h]
  rfl
theorem spec_card_ok {i k : Int} (h : (isLifter s i && within k 0 1) = true) : spec s (.card i k) = (s, ⟨(s.liftOf i.toNat k.toNat).tries.length, whole ([(s.liftOf i.toNat k.toNat).next, (s.liftOf i.toNat k.toNat).changes] ++ (s.liftOf i.toNat k.toNat).tries.flatMap fun t => [t.weight, t.good])⟩) := by
  simp only [spec, h]
  rfl
theorem spec_ranked_bad {k : Int} (h : within k 0 2 = false) : spec s (.ranked k) = (s, num (-1)) := by
  simp only [spec, h]
  rfl
theorem spec_ranked_ok {k : Int} (h : within k 0 2 = true) : spec s (.ranked k) = (s, ⟨(s.ranked k.toNat).length, whole ((s.ranked k.toNat).flatMap fun i => [i, ((s.result k.toNat i).map fun r => r.1).getD 0])⟩) := by
  simp only [spec, h]
  rfl
theorem spec_points_bad {t : Int} (h : within t 0 20 = false) : spec s (.points t) = (s, num (-1)) := by
  simp only [spec, h]
  rfl
theorem spec_points_ok {t : Int} (h : within t 0 20 = true) : spec s (.points t) = (s, num (s.teamPoints t.toNat : Nat)) := by
  simp only [spec, h]
  rfl
end
end BC
/-! BcMath8 -/
/-! The orders and the points. -/
namespace BC
open Kg59

section
variable {s : State} {nw : NW}
/-- what the program has one stand in an order with -/
def resP (s : State) (k i : Nat) : Nat × Nat :=
  if k < 2 then bestP (s.liftOf i k)
  else if (bestP (s.liftOf i 0)).1 = 0 ∨ (bestP (s.liftOf i 1)).1 = 0 then (0, 0) else ((bestP (s.liftOf i 0)).1 + (bestP (s.liftOf i 1)).1, (bestP (s.liftOf i 1)).2)
theorem better_mem : ∀ (l : List Try) (b : Option Try) (t : Try), l.foldl better b = some t → t ∈ l ∨ b = some t
  | [], b, t, h => .inr h
  | y :: l, b, t, h => by
    rcases better_mem l (better b y) t h with m | e
    · exact .inl (by simp [m])
    · cases b with
      | none =>
        have e : some y = some t := e
        cases e
        exact .inl (by simp)
      | some x =>
        have e : (if x.weight < y.weight then some y else some x) = some t := e
        split at e
        · cases e; exact .inl (by simp)
        · cases e; exact .inr rfl
theorem best_mem {x : Lift} {t : Try} (h : best x = some t) : t ∈ x.tries := by
  rcases better_mem _ none t h with m | e
  · exact (List.mem_filter.mp m).1
  · cases e
theorem bestP_some {x : Lift} {t : Try} (h : best x = some t) : bestP x = (t.weight, t.at_ + 1) := by
  rw [best_of] at h
  unfold bestP
  rw [h]
  rfl
theorem bestP_none {x : Lift} (h : best x = none) : bestP x = (0, 0) := by
  rw [best_of] at h
  unfold bestP
  rw [h]
  rfl
theorem res_low {k i : Nat} (h : k < 2) : s.result k i = (best (s.liftOf i k)).map fun t => (t.weight, t.at_) := if_pos h
theorem res_high {k i : Nat} (h : ¬ k < 2) : s.result k i = (match best (s.liftOf i 0), best (s.liftOf i 1) with | some a, some b => some (a.weight + b.weight, b.at_) | _, _ => none) := if_neg h
theorem res_is (G : Good s nw) {k i : Nat} (hi : i < s.lifters.length) : (∀ r, s.result k i = some r → resP s k i = (r.1, r.2 + 1) ∧ 1 ≤ r.1 ∧ r.1 ≤ 1004) ∧ (s.result k i = none → resP s k i = (0, 0)) := by
  have wb : ∀ k t, k < 2 → best (s.liftOf i k) = some t → 1 ≤ t.weight ∧ t.weight ≤ 502 := fun k t hk e =>
    let z := (G.cap i k hk hi).each t (best_mem e)
    ⟨z.1, z.2.1⟩
  unfold resP
  by_cases hk : k < 2
  · rw [res_low hk, if_pos hk]
    cases e : best (s.liftOf i k) with
    | none => exact ⟨fun r h => (by cases h), fun _ => bestP_none e⟩
    | some t =>
      refine ⟨fun r h => ?_, fun h => by cases h⟩
      have h : some (t.weight, t.at_) = some r := h
      cases h
      have := wb k t hk e
      exact ⟨bestP_some e, this.1, by show t.weight ≤ 1004; omega⟩
  · rw [res_high hk, if_neg hk]
    cases e : best (s.liftOf i 0) with
    | none =>
      rw [bestP_none e]
      exact ⟨fun r h => (by cases h), fun _ => if_pos (.inl rfl)⟩
    | some a =>
      cases e' : best (s.liftOf i 1) with
      | none =>
        rw [bestP_none e']
        exact ⟨fun r h => (by cases h), fun _ => if_pos (.inr rfl)⟩
      | some b =>
        have h1 := wb 0 a (by decide) e
        have h2 := wb 1 b (by decide) e'
        rw [bestP_some e, bestP_some e']
        refine ⟨fun r h => ?_, fun h => by cases h⟩
        have h : some (a.weight + b.weight, b.at_) = some r := h
        cases h
        refine ⟨if_neg ?_, ?_, ?_⟩
        · rintro (z | z)
          · have z : a.weight = 0 := z; omega
          · have z : b.weight = 0 := z; omega
        · show 1 ≤ a.weight + b.weight; omega
        · show a.weight + b.weight ≤ 1004; omega
theorem res_pos (G : Good s nw) {k i : Nat} (hi : i < s.lifters.length) : (s.result k i).isSome = decide (0 < (resP s k i).1) := by
  obtain ⟨h1, h2⟩ := res_is G (k := k) hi
  cases e : s.result k i with
  | none => rw [h2 e]; rfl
  | some r =>
    obtain ⟨e1, p, _⟩ := h1 r e
    rw [e1]
    have p : 0 < r.1 := p
    show true = decide (0 < r.1)
    rw [decide_eq_true p]
def rowR (s : State) (k i : Nat) : List Int := [0 - ((resP s k i).1 : Int), ((resP s k i).2 : Int), (i : Int)]
def inR (s : State) (k : Nat) : List Nat := (List.range s.lifters.length).filter fun i => (s.result k i).isSome
def keyR (s : State) (k i : Nat) : List Nat := match s.result k i with
  | some r => [1000000 - r.1, r.2, i]
  | none => []
theorem ranked_is (k : Nat) : s.ranked k = Kg59.sorted (keyR s k) (inR s k) := rfl
theorem mem_inR {k i : Nat} : i ∈ inR s k ↔ i < s.lifters.length ∧ (s.result k i).isSome = true := by
  unfold inR
  rw [List.mem_filter, List.mem_range]
theorem mem_ranked {k i : Nat} : i ∈ s.ranked k ↔ i < s.lifters.length ∧ (s.result k i).isSome = true := by
  rw [ranked_is]
  exact ((sorted_perm _ _).mem_iff).trans mem_inR
theorem ranked_len (G : Good s nw) (k : Nat) : (s.ranked k).length ≤ 24 := by
  rw [ranked_is, (sorted_perm _ _).length_eq]
  unfold inR
  refine Nat.le_trans (List.length_filter_le _ _) ?_
  rw [List.length_range]
  exact G.n24
theorem inR_len (G : Good s nw) (k : Nat) : (inR s k).length ≤ 24 := by
  unfold inR
  refine Nat.le_trans (List.length_filter_le _ _) ?_
  rw [List.length_range]
  exact G.n24
theorem row_lessR {w w' m m' i j : Nat} (h : w ≤ 1000000) (h' : w' ≤ 1000000) : lx [0 - (w : Int), ((m + 1 : Nat) : Int), (i : Int)] [0 - (w' : Int), ((m' + 1 : Nat) : Int), (j : Int)] = less [1000000 - w, m, i] [1000000 - w', m', j] := by
  apply bool_iff
  simp only [lx_iff, less_iff, lx_nil, less_nil]
  have e1 : (0 - (w : Int) < 0 - (w' : Int)) ↔ 1000000 - w < 1000000 - w' := by omega
  have e2 : (0 - (w : Int) = 0 - (w' : Int)) ↔ 1000000 - w = 1000000 - w' := by omega
  have e3 : (((m + 1 : Nat) : Int) < ((m' + 1 : Nat) : Int)) ↔ m < m' := by omega
  have e4 : (((m + 1 : Nat) : Int) = ((m' + 1 : Nat) : Int)) ↔ m = m' := by omega
  have e5 : ((i : Int) < (j : Int)) ↔ i < j := by omega
  rw [e1, e2, e3, e4, e5]
  simp
theorem rank_rows (G : Good s nw) (k : Nat) {out : List (List Int)} (hp : out.Perm ((inR s k).map (rowR s k))) (hs : out.Pairwise fun u v => lx v u = false) : out = (s.ranked k).map (rowR s k) := by
  have get : ∀ i, i ∈ inR s k → ∃ r, s.result k i = some r := fun i m => Option.isSome_iff_exists.mp (mem_inR.mp m).2
  rw [ranked_is]
  refine rows_sorted (key := keyR s k) (d := 3) (e := 3) (fun i m => ?_) (fun _ _ => rfl) (fun i mi j mj => ?_) hp hs
  · obtain ⟨r, e⟩ := get i m
    unfold keyR
    rw [e]
    rfl
  · obtain ⟨r, e⟩ := get i mi
    obtain ⟨r', e'⟩ := get j mj
    obtain ⟨z, _, zb⟩ := (res_is G (mem_inR.mp mi).1).1 r e
    obtain ⟨z', _, zb'⟩ := (res_is G (mem_inR.mp mj).1).1 r' e'
    unfold rowR keyR
    rw [e, e', z, z']
    exact row_lessR (by omega) (by omega)
theorem ranked_weight (G : Good s nw) {k i : Nat} (h : i ∈ s.ranked k) : (resP s k i).1 = ((s.result k i).map fun r => r.1).getD 0 := by
  obtain ⟨hi, hs⟩ := mem_ranked.mp h
  obtain ⟨r, e⟩ := Option.isSome_iff_exists.mp hs
  rw [((res_is G hi).1 r e).1, e]
  rfl
/-! ### points -/
def ptsOf (s : State) (team : Nat) (x : Nat × Nat) : Nat := if ((s.lifters[x.1]?).map Lifter.team) = some team then pointsOf x.2 else 0
def ptsK (s : State) (k team : Nat) : Nat := ((s.ranked k).zipIdx.map (ptsOf s team)).sum
theorem teamPoints_is (team : Nat) : s.teamPoints team = ((List.range 3).map fun k => ptsK s k team).sum := rfl
theorem sum_snoc (l : List Nat) (z : Nat) : (l ++ [z]).sum = l.sum + z := by simp
theorem pts_step {k team j i : Nat} (h : (s.ranked k)[j]? = some i) : (((s.ranked k).zipIdx.take (j + 1)).map (ptsOf s team)).sum = (((s.ranked k).zipIdx.take j).map (ptsOf s team)).sum + ptsOf s team (i, j) := by
  have e : (s.ranked k).zipIdx[j]? = some (i, j) := by rw [List.getElem?_zipIdx, h]; simp
  rw [take_one e, List.map_append]
  exact sum_snoc _ _
theorem pts_all {k team : Nat} : (((s.ranked k).zipIdx.take (s.ranked k).length).map (ptsOf s team)).sum = ptsK s k team := by
  unfold ptsK
  rw [List.take_of_length_le (by rw [List.length_zipIdx]; exact Nat.le_refl _)]
theorem sum_range_step (f : Nat → Nat) (n : Nat) : ((List.range (n + 1)).map f).sum = ((List.range n).map f).sum + f n := by
  rw [List.range_succ, List.map_append]
  exact sum_snoc _ _
end
end BC
/-! BcMath9 -/
/-! The calls' list: what stands at a place, what is due for the rest. -/
namespace BC
open Kg59

def enc : Kg59.Call → List Int
  | .begin_ ts => 1 :: (ts.length : Int) :: ts
  | .ask i a b => [2, i, a, b]
  | .start => [3]
  | .up => [4]
  | .order => [5]
  | .try_ g => [6, g]
  | .change i w => [7, i, w]
  | .reverse => [8]
  | .card i k => [9, i, k]
  | .ranked k => [10, k]
  | .points t => [11, t]
theorem enc_pos (c : Kg59.Call) : 1 ≤ (enc c).length := by cases c <;> simp [enc]
theorem whole_id (c : List (List Int)) : PyKg59.whole c = c := by
  unfold PyKg59.whole
  split <;> rfl
theorem rows0 (r : List Int) : PyFlat.rows 0 r = some ([], r) := rfl
theorem call_parse {l t : List Int} {cc : List (List Int)} (h : PyFlat.call PyKg59.shape l = some (cc, t)) : ∃ c, Kg59Neutral.callOf (PyKg59.whole cc) = some c ∧ l = enc c ++ t := by
  rw [whole_id]
  cases l with
  | nil => cases h
  | cons p r =>
    have fixed : ∀ n, PyKg59.shape p = some (n, 0) → n ≤ r.length ∧ cc = [p :: r.take n] ∧ t = r.drop n := fun n e => by
      unfold PyFlat.call at h
      dsimp only at h
      rw [e] at h
      dsimp only at h
      by_cases c : r.length < n
      · rw [if_pos c] at h; cases h
      · rw [if_neg c, rows0] at h
        dsimp only at h
        have h := Option.some.inj h
        exact ⟨by omega, (congrArg Prod.fst h).symm, (congrArg Prod.snd h).symm⟩
    by_cases p1 : p = 1
    · subst p1
      have e : PyKg59.shape 1 = some (0, 1) := rfl
      unfold PyFlat.call at h
      dsimp only at h
      rw [e] at h
      dsimp only at h
      rw [if_neg (Nat.not_lt_zero _), List.drop_zero, List.take_zero] at h
      cases r with
      | nil => simp [PyFlat.rows, PyFlat.row] at h
      | cons m r' =>
        unfold PyFlat.rows PyFlat.row at h
        dsimp only at h
        by_cases c : 0 ≤ m ∧ m.toNat ≤ r'.length
        · rw [if_pos c] at h
          simp only [rows0] at h
          have h := Option.some.inj h
          have hc := (congrArg Prod.fst h).symm
          have ht := (congrArg Prod.snd h).symm
          dsimp only at hc ht
          refine ⟨.begin_ (r'.take m.toNat), by rw [hc]; rfl, ?_⟩
          have hl : ((r'.take m.toNat).length : Int) = m := by rw [List.length_take]; omega
          show (1 : Int) :: m :: r' = 1 :: ((r'.take m.toNat).length : Int) :: (r'.take m.toNat ++ t)
          rw [hl, ht, List.take_append_drop]
        · rw [if_neg c] at h
          simp at h
    by_cases p2 : p = 2
    · subst p2
      obtain ⟨hn, hc, ht⟩ := fixed 3 rfl
      match r, hn, hc, ht with
      | a :: b :: c :: r', _, hc, ht => exact ⟨.ask a b c, by rw [hc]; rfl, by rw [ht]; rfl⟩
      | [], hn, _, _ => simp at hn
      | [_], hn, _, _ => simp at hn
      | [_, _], hn, _, _ => simp at hn
    by_cases p3 : p = 3
    · subst p3
      obtain ⟨hn, hc, ht⟩ := fixed 0 rfl
      exact ⟨.start, by rw [hc]; rfl, by rw [ht]; rfl⟩
    by_cases p4 : p = 4
    · subst p4
      obtain ⟨hn, hc, ht⟩ := fixed 0 rfl
      exact ⟨.up, by rw [hc]; rfl, by rw [ht]; rfl⟩
    by_cases p5 : p = 5
    · subst p5
      obtain ⟨hn, hc, ht⟩ := fixed 0 rfl
      exact ⟨.order, by rw [hc]; rfl, by rw [ht]; rfl⟩
    by_cases p6 : p = 6
    · subst p6
      obtain ⟨hn, hc, ht⟩ := fixed 1 rfl
      match r, hn, hc, ht with
      | a :: r', _, hc, ht => exact ⟨.try_ a, by rw [hc]; rfl, by rw [ht]; rfl⟩
      | [], hn, _, _ => simp at hn
    by_cases p7 : p = 7
    · subst p7
      obtain ⟨hn, hc, ht⟩ := fixed 2 rfl
      match r, hn, hc, ht with
      | a :: b :: r', _, hc, ht => exact ⟨.change a b, by rw [hc]; rfl, by rw [ht]; rfl⟩
      | [], hn, _, _ => simp at hn
      | [_], hn, _, _ => simp at hn
    by_cases p8 : p = 8
    · subst p8
      obtain ⟨hn, hc, ht⟩ := fixed 0 rfl
      exact ⟨.reverse, by rw [hc]; rfl, by rw [ht]; rfl⟩
    by_cases p9 : p = 9
    · subst p9
      obtain ⟨hn, hc, ht⟩ := fixed 2 rfl
      match r, hn, hc, ht with
      | a :: b :: r', _, hc, ht => exact ⟨.card a b, by rw [hc]; rfl, by rw [ht]; rfl⟩
      | [], hn, _, _ => simp at hn
      | [_], hn, _, _ => simp at hn
    by_cases p10 : p = 10
    · subst p10
      obtain ⟨hn, hc, ht⟩ := fixed 1 rfl
      match r, hn, hc, ht with
      | a :: r', _, hc, ht => exact ⟨.ranked a, by rw [hc]; rfl, by rw [ht]; rfl⟩
      | [], hn, _, _ => simp at hn
    by_cases p11 : p = 11
    · subst p11
      obtain ⟨hn, hc, ht⟩ := fixed 1 rfl
      match r, hn, hc, ht with
      | a :: r', _, hc, ht => exact ⟨.points a, by rw [hc]; rfl, by rw [ht]; rfl⟩
      | [], hn, _, _ => simp at hn
    · exfalso
      have e : PyKg59.shape p = none := by unfold PyKg59.shape; simp only [p1, p2, p3, p4, p5, p6, p7, p8, p9, p10, p11, if_false]
      unfold PyFlat.call at h
      dsimp only at h
      rw [e] at h
      cases h

/-- what is due for the calls that are left -/
def due (s : State) (cs : List (List (List Int))) : List Int := PyFlat.told (PyFlat.played Kg59Neutral.step s (cs.map PyKg59.whole))
theorem due_nil (s : State) : due s [] = [] := rfl
theorem due_cons {s : State} {cc : List (List Int)} {cs : List (List (List Int))} {c : Kg59.Call} (h : Kg59Neutral.callOf (PyKg59.whole cc) = some c) :
    due s (cc :: cs) = ((((spec s c).2.value :: (spec s c).2.out).length : Int) :: ((spec s c).2.value :: (spec s c).2.out)) ++ due (spec s c).1 cs := by
  have e : Kg59Neutral.step s (PyKg59.whole cc) = ((spec s c).1, (spec s c).2.value :: (spec s c).2.out) := by
    unfold Kg59Neutral.step
    rw [h]
  show PyFlat.told ((Kg59Neutral.step s (PyKg59.whole cc)).2 :: PyFlat.played Kg59Neutral.step (Kg59Neutral.step s (PyKg59.whole cc)).1 (cs.map PyKg59.whole)) = _
  rw [e]
  rfl
theorem calls_cons {f : Nat} {l : List Int} {cs : List (List (List Int))} (h : PyFlat.calls PyKg59.shape f l = some cs) (hl : l ≠ []) : ∃ cc cs' t f', cs = cc :: cs' ∧ PyFlat.call PyKg59.shape l = some (cc, t) ∧ PyFlat.calls PyKg59.shape f' t = some cs' := by
  cases l with
  | nil => exact absurd rfl hl
  | cons p r =>
    cases f with
    | zero => cases h
    | succ f =>
      unfold PyFlat.calls at h
      cases e : PyFlat.call PyKg59.shape (p :: r) with
      | none => rw [e] at h; cases h
      | some x =>
        rw [e] at h
        dsimp only at h
        cases e' : PyFlat.calls PyKg59.shape f x.2 with
        | none => rw [e'] at h; cases h
        | some cs' =>
          rw [e'] at h
          exact ⟨x.1, cs', x.2, f, (Option.some.inj h).symm, rfl, e'⟩
theorem calls_nil {f : Nat} {cs : List (List (List Int))} (h : PyFlat.calls PyKg59.shape f [] = some cs) : cs = [] := by
  cases f <;> exact (Option.some.inj h).symm
/-- at a place: a call, and what is behind it -/
theorem at_call {f : Nat} {l : List Int} {cs : List (List (List Int))} {s : State} (h : PyFlat.calls PyKg59.shape f l = some cs) (hl : l ≠ []) :
    ∃ c cs' t f', l = enc c ++ t ∧ PyFlat.calls PyKg59.shape f' t = some cs' ∧ due s cs = ((((spec s c).2.value :: (spec s c).2.out).length : Int) :: ((spec s c).2.value :: (spec s c).2.out)) ++ due (spec s c).1 cs' := by
  obtain ⟨cc, cs', t, f', rfl, h1, h2⟩ := calls_cons h hl
  obtain ⟨c, h3, h4⟩ := call_parse h1
  exact ⟨c, cs', t, f', h4, h2, due_cons h3⟩
theorem answers_due {l : List Int} (h : PyKg59.answers_asked l = true) : ∃ cs, PyFlat.calls PyKg59.shape l.length l = some cs ∧ PyKg59.answers l = due Kg59.init cs ∧ (PyKg59.answers l).length ≤ 10000000 := by
  unfold PyKg59.answers_asked at h
  cases e : PyFlat.calls PyKg59.shape l.length l with
  | none => rw [e] at h; cases h
  | some cs =>
    rw [e] at h
    simp only [Bool.and_eq_true] at h
    refine ⟨cs, rfl, ?_, of_decide_eq_true h.2⟩
    unfold PyKg59.answers PyKg59.calls
    rw [e]
    rfl
theorem get_drop {l m r : List Int} {i j : Nat} {v : Int} (h : l.drop i = m ++ r) (e : m[j]? = some v) : l[i + j]? = some v := by
  have hj := (List.getElem?_eq_some_iff.mp e).1
  rw [← List.getElem?_drop, h, List.getElem?_append_left hj]
  exact e
end BC
/-! BcRule -/
/-! A rule of our own: sorted of a list of tuples of whole numbers of any sign. -/
namespace BC
open PySem PySem.Spec PyProof.Rows L2

section
variable {prog : Program} {w : World} {A : Around} {s : Shared}
theorem run_lex {b : Bool} {us vs : List Value} {ns : List Int} (hu : IntsAre us ns) : ∀ {ms : List Int} (i : Nat) {Q : Bool → Shared → Prop}, IntsAre vs ms → ns.length = ms.length →
    Q (HT.lexLt ns ms) s → PySem.W.KatLex prog w A b false Q (us.zip vs) i s := by
  induction hu generalizing vs with
  | nil =>
    intro ms i Q hv hl hq
    cases hv with
    | nil => exact PySem.W.kat_nil hq
    | cons _ _ _ => cases hl
  | @cons n tok us' ns' hr ih =>
    intro ms i Q hv hl hq
    cases hv with
    | nil => cases hl
    | @cons m tok' vs' ms' hv' =>
      have hl2 : ns'.length = ms'.length := Nat.succ.inj hl
      refine PySem.W.kat_cons (wpAny_eqBool_int ?_)
      refine PySem.W.kat_go (fun e => ?_) (fun e => ?_)
      · have en : n = m := eq_of_beq e
        refine PySem.W.kat_yes (ih (i + 1) hv' hl2 ?_)
        rw [HT.lexLt_cons, if_pos en] at hq
        exact hq
      · have en : ¬ n = m := fun z => by
          rw [z, beq_self_eq_true] at e
          cases e
        rw [HT.lexLt_cons, if_neg en] at hq
        exact PySem.W.kat_no (TS.oneLt_ints _ hq)

/-- a tuple of these whole numbers, at least one -/
def RowAt (h : Heap) (d : Nat) (v : Value) (ns : List Int) : Prop := TS.TupInts h v ns ∧ ns.length = d + 1

theorem heads {h : Heap} {d : Nat} {k : Value → List Int} : ∀ vs : List Value, (∀ v ∈ vs, RowAt h d v (k v)) → ∃ fs, PySem.W.KatTups h vs fs ∧ fs.length = vs.length ∧ ∀ f ∈ fs, ∃ n tok, f = Value.int n tok
  | [], _ => ⟨[], .nil, rfl, fun _ z => nomatch z⟩
  | v :: rest, hh => by
    obtain ⟨fs, kt, lf, allf⟩ := heads rest fun u m => hh u (.tail _ m)
    obtain ⟨⟨a, arr, ev, ⟨ob, gob, cob, cnt, dob⟩, ia⟩, ld⟩ := hh v (.head _)
    generalize k v = ns at ia ld
    cases earr : arr.toList with
    | nil =>
      rw [earr] at ia
      cases ia
      cases ld
    | cons y ys =>
      rw [earr] at ia
      cases ia with
      | @cons n tok _ _ _ =>
        subst ev
        refine ⟨Value.int n tok :: fs, .cons gob cob dob ?_ kt, congrArg Nat.succ lf, fun f m => ?_⟩
        · rw [← Array.getElem?_toList, earr]
          rfl
        · rcases List.mem_cons.mp m with rfl | m
          · exact ⟨n, tok, rfl⟩
          · exact allf f m

theorem rows_cmp {c : Bool} {d : Nat} {vs : List Value} {k : Value → List Int} (hk : ∀ v ∈ vs, RowAt s.heap d v (k v)) : SrtO.Cmp prog w A s (tuples' c) (fun p => p.1 ∈ vs) (SrtO.lt2 fun v u => HT.lexLt (k v) (k u)) := by
  intro p q mp mq
  obtain ⟨⟨a, xa, ea, ⟨oa, ga, _, na, da⟩, ia⟩, la⟩ := hk _ mp
  obtain ⟨⟨b, xb, eb, ⟨ob, gb, _, nb, db⟩, ib⟩, lb⟩ := hk _ mq
  show wpAny (model prog w) A (keyLt' (tuples' c) p.1 q.1) (fun r s' => s' = s ∧ r = HT.lexLt (k p.1) (k q.1)) (fun _ _ => False) s
  generalize k p.1 = ns at ia la ⊢
  generalize k q.1 = ms at ib lb ⊢
  rw [ea, eb]
  have e1 := ia.length
  have e2 := ib.length
  rw [Array.length_toList] at e1 e2
  have hz : decide (xa.size < xb.size) = false := decide_eq_false (by omega)
  refine PySem.W.kat_lt ga da gb db ?_
  rw [hz]
  exact run_lex ia 0 ib (by omega) ⟨rfl, rfl⟩

theorem rows_sortable {a : Addr} {d : Nat} {vs : List Value} {k : Value → List Int} (h0 : 0 < vs.length) (hk : ∀ v ∈ vs, RowAt s.heap d v (k v)) (ha : ∀ o, s.heap.get? a = some o → o.cls ≠ .type "tuple") :
    SrtO.SortableO prog w A s a vs fun v u => HT.lexLt (k v) (k u) := by
  intro h' kp
  have hk' : ∀ v ∈ vs, RowAt h' d v (k v) := fun v m =>
    ⟨(hk v m).1.keeps fun b o e c => kp b o (fun z => ha o (z ▸ e) c) e, (hk v m).2⟩
  obtain ⟨fs, kt, lf, allf⟩ := heads vs hk'
  refine ⟨tuples' (Value.type "int" != Value.type "tuple"), fun Q E hq => ?_, rows_cmp hk'⟩
  refine PySem.W.kat_kind (T := .type "int") kt (by omega) (fun f m => ?_) (by rfl) hq
  obtain ⟨n, tok, rfl⟩ := allf f m
  exact PySem.W.Looks.of_pure rfl
end

/-- the address of a value -/
def toAd : Value → Addr
  | .ref a => a
  | _ => 0
theorem refs_vals : ∀ {ts : List Addr} {us : List Value}, Vals (ts.map V.ref) us → us = ts.map Value.ref
  | [], [], _ => rfl
  | [], _ :: _, h => nomatch h
  | _ :: _, [], h => nomatch h
  | t :: ts, u :: us, h => by
    cases h with
    | cons r q =>
      have e : u = Value.ref t := r
      rw [e, refs_vals q]
      rfl
theorem vals_refs : ∀ ts : List Addr, Vals (ts.map V.ref) (ts.map Value.ref)
  | [] => .nil
  | _ :: ts => .cons rfl (vals_refs ts)

/-- sorted(xs), xs a list of tuples of d + 1 whole numbers (k tells which): a new list of the same, in order -/
def rSortL (K : PySem.W.Frag) : List V → Hp → VK → Prop := fun vs H Q => ∃ (a : Addr) (ts : List Addr) (k : Addr → List Int) (d : Nat), vs = [V.ref a] ∧ SqL K H a (ts.map V.ref) ∧
  (∀ t ∈ ts, SqT K H t ((k t).map V.int) ∧ (k t).length = d + 1) ∧
  ∀ (us : List Addr) (p : Addr), us.Perm ts → us.Pairwise (fun u v => HT.lexLt (k v) (k u) = false) → H p = none → Q (.ref p) (upd H p (.lst (us.map V.ref)))
theorem cr_sortL {X : Cx} : CallR X (.builtin "sorted") (rSortL X.K) := by
  intro pins s σ H vs us Q I r h
  obtain ⟨a, ts, k, d, rfl, hs, hk, q⟩ := h
  obtain ⟨its, rv, hl, hz⟩ := I.list hs
  obtain ⟨u, rfl, ru⟩ := vals1 r
  obtain rfl : u = Value.ref a := ru
  have ei := refs_vals rv
  subst ei
  have hrow : ∀ v ∈ ts.map Value.ref, RowAt s.heap d v (k (toAd v)) := fun v m => by
    obtain ⟨t, mt, rfl⟩ := List.mem_map.mp m
    exact ⟨tupI_raw I (hk t mt).1, (hk t mt).2⟩
  refine SrtO.sorted_ord (ltv := fun v u => HT.lexLt (k (toAd v)) (k (toAd u))) (NtL.swo_lexL fun v => k (toAd v)) hl.isList (by rw [← rv.length]; exact hz) (fun h2 h1 b gb kk => ?_) (fun out so sb => ?_)
  · refine rows_sortable (s := { s with heap := h1 }) (d := d) (k := fun v => k (toAd v)) (by omega) (fun v m => ⟨(hrow v m).1.keeps fun c o e _ => (kk c o e).2, (hrow v m).2⟩) fun o e c => ?_
    rw [gb] at e
    cases e
    exact absurd (Value.type.inj c) (by decide)
  · obtain ⟨ep, he⟩ := sortedAll_at s.heap (ts.map Value.ref) out.toArray
    have pm : (out.map toAd).Perm ts := by
      have z := sb.perm.map toAd
      rw [List.map_map] at z
      have e : (toAd ∘ Value.ref) = id := rfl
      rw [e, List.map_id] at z
      exact z
    have eo : out = (out.map toAd).map Value.ref := by
      rw [List.map_map]
      refine (List.map_id out).symm.trans (List.map_congr_left fun v m => ?_)
      obtain ⟨t, _, rfl⟩ := List.mem_map.mp (sb.perm.mem_iff.mp m)
      rfl
    have hlen : ((out.map toAd).map V.ref).length ≤ sizeLine := by
      rw [List.length_map, pm.length_eq]
      have z := hz
      rw [List.length_map] at z
      exact z
    have vv : Vals ((out.map toAd).map V.ref) out := by
      have z := vals_refs (out.map toAd)
      rw [← eo] at z
      exact z
    exact ⟨.ref _, upd H (s.heap.objs.size + 1) (.lst ((out.map toAd).map V.ref)), I.laid (t' := s.toks) (fun _ _ => sortedAll_old) (Nat.le_succ _) ⟨hlen, out, ep, vv, he⟩, rfl,
      q _ _ pm (List.pairwise_map.mpr so) (I.hok.fresh (Nat.le_succ _))⟩

/-! ### names of the module that hold a number or a tuple -/
theorem pe_cst {X : Cx} {x : Str} {i : Int} {pos : Pos} (hg : Gl X x) (h : ∃ t, X.mg x = some (.int i t)) (hd : (x == ("__debug__" : Str)) = false := by decide) : PE X (.Name x pos) (tC (.int i)) := by
  obtain ⟨t, e⟩ := h
  exact pe_glob hg e ⟨t, rfl⟩ hd
def tTupC (K : PySem.W.Frag) (xs : List V) : TE := fun _ H Q => ∀ a, (∀ H, SqT K H a xs) → Q (.ref a) H
theorem pe_tcst {X : Cx} {x : Str} {xs : List V} {pos : Pos} (hg : Gl X x) (h : ∃ a, X.mg x = some (.ref a) ∧ ∀ H, SqT X.K H a xs) (hd : (x == ("__debug__" : Str)) = false := by decide) : PE X (.Name x pos) (tTupC X.K xs) := by
  obtain ⟨a, e, ht⟩ := h
  refine ⟨fun pins s σ H Q I hq => ?_⟩
  exact (pe_glob (v := .ref a) hg e rfl hd).run pins s σ H Q I (hq a ht)
end BC
/-! BcText -/
namespace BC
open PySem PySem.Spec PyProof.Rows L2
def top (i : Nat) : Stmt := PySem.Challenge.pw_barcontest_s01_answers.main.body.getD i (.Pass ⟨0, 0, 0, 0⟩)
abbrev s_right_weight : Stmt := top 7
abbrev s_Part_init : Stmt := inClass (top 8) 0
abbrev s_made : Stmt := inClass (top 8) 1
abbrev s_moment : Stmt := inClass (top 8) 2
abbrev s_last_weight : Stmt := inClass (top 8) 3
abbrev s_last_mark : Stmt := inClass (top 8) 4
abbrev s_needs : Stmt := inClass (top 8) 5
abbrev s_best : Stmt := inClass (top 8) 6
abbrev s_ask_for : Stmt := inClass (top 8) 7
abbrev s_change_to : Stmt := inClass (top 8) 8
abbrev s_take : Stmt := inClass (top 8) 9
abbrev s_turn : Stmt := inClass (top 8) 10
abbrev s_Board_init : Stmt := inClass (top 13) 0
abbrev s_renew : Stmt := inClass (top 13) 1
abbrev s_begun : Stmt := inClass (top 13) 2
abbrev s_running : Stmt := inClass (top 13) 3
abbrev s_knows : Stmt := inClass (top 13) 4
abbrev s_part_now : Stmt := inClass (top 13) 5
abbrev s_tried_last : Stmt := inClass (top 13) 6
abbrev s_bar : Stmt := inClass (top 13) 7
abbrev s_note_attempt : Stmt := inClass (top 13) 8
abbrev s_move_on : Stmt := inClass (top 13) 9
abbrev s_left : Stmt := top 17
abbrev s_calling_row : Stmt := top 18
abbrev s_calling_order : Stmt := top 19
abbrev s_first_called : Stmt := top 20
abbrev s_up : Stmt := top 21
abbrev s_order : Stmt := top 22
abbrev s_try_one : Stmt := top 24
abbrev s_turn_round : Stmt := top 25
abbrev s_last_comes_ahead : Stmt := top 27
abbrev s_may_ask : Stmt := top 28
abbrev s_change : Stmt := top 29
abbrev s_right_team : Stmt := top 33
abbrev s_right_teams : Stmt := top 34
abbrev s_begin : Stmt := top 35
abbrev s_ask : Stmt := top 36
abbrev s_all_asked : Stmt := top 37
abbrev s_start : Stmt := top 38
abbrev s_card : Stmt := top 46
abbrev s_result : Stmt := top 47
abbrev s_ranking : Stmt := top 48
abbrev s_ranked : Stmt := top 49
abbrev s_worth : Stmt := top 50
abbrev s_order_points : Stmt := top 51
abbrev s_points : Stmt := top 52
abbrev s_call_length : Stmt := top 56
abbrev s_answer_ahead : Stmt := top 57
abbrev s_answer_behind : Stmt := top 58
abbrev s_answer : Stmt := top 59
abbrev s_answers : Stmt := top 60
theorem sc_right_weight : FnScope ["weight"] ["weight"] (defScope s_right_weight) := ⟨rfl, rfl, rfl, by decide +kernel, rfl, by decide +kernel, by decide +kernel⟩
theorem sc_Part_init : FnScope ["self"] ["self"] (defScope s_Part_init) := ⟨rfl, rfl, rfl, by decide +kernel, rfl, by decide +kernel, by decide +kernel⟩
theorem sc_made : FnScope ["self"] ["self"] (defScope s_made) := ⟨rfl, rfl, rfl, by decide +kernel, rfl, by decide +kernel, by decide +kernel⟩
theorem sc_moment : FnScope ["self", "many"] ["self", "many"] (defScope s_moment) := ⟨rfl, rfl, rfl, by decide +kernel, rfl, by decide +kernel, by decide +kernel⟩
theorem sc_last_weight : FnScope ["self"] ["self"] (defScope s_last_weight) := ⟨rfl, rfl, rfl, by decide +kernel, rfl, by decide +kernel, by decide +kernel⟩
theorem sc_last_mark : FnScope ["self"] ["self"] (defScope s_last_mark) := ⟨rfl, rfl, rfl, by decide +kernel, rfl, by decide +kernel, by decide +kernel⟩
theorem sc_needs : FnScope ["self"] ["self"] (defScope s_needs) := ⟨rfl, rfl, rfl, by decide +kernel, rfl, by decide +kernel, by decide +kernel⟩
theorem sc_best : FnScope ["self", "found", "at"] ["self"] (defScope s_best) := ⟨rfl, rfl, rfl, by decide +kernel, rfl, by decide +kernel, by decide +kernel⟩
theorem sc_ask_for : FnScope ["self", "weight"] ["self", "weight"] (defScope s_ask_for) := ⟨rfl, rfl, rfl, by decide +kernel, rfl, by decide +kernel, by decide +kernel⟩
theorem sc_change_to : FnScope ["self", "weight"] ["self", "weight"] (defScope s_change_to) := ⟨rfl, rfl, rfl, by decide +kernel, rfl, by decide +kernel, by decide +kernel⟩
theorem sc_take : FnScope ["self", "mark", "moment"] ["self", "mark", "moment"] (defScope s_take) := ⟨rfl, rfl, rfl, by decide +kernel, rfl, by decide +kernel, by decide +kernel⟩
theorem sc_turn : FnScope ["self"] ["self"] (defScope s_turn) := ⟨rfl, rfl, rfl, by decide +kernel, rfl, by decide +kernel, by decide +kernel⟩
theorem sc_Board_init : FnScope ["self"] ["self"] (defScope s_Board_init) := ⟨rfl, rfl, rfl, by decide +kernel, rfl, by decide +kernel, by decide +kernel⟩
theorem sc_renew : FnScope ["self", "teams", "team"] ["self", "teams"] (defScope s_renew) := ⟨rfl, rfl, rfl, by decide +kernel, rfl, by decide +kernel, by decide +kernel⟩
theorem sc_begun : FnScope ["self"] ["self"] (defScope s_begun) := ⟨rfl, rfl, rfl, by decide +kernel, rfl, by decide +kernel, by decide +kernel⟩
theorem sc_running : FnScope ["self"] ["self"] (defScope s_running) := ⟨rfl, rfl, rfl, by decide +kernel, rfl, by decide +kernel, by decide +kernel⟩
theorem sc_knows : FnScope ["self", "lifter"] ["self", "lifter"] (defScope s_knows) := ⟨rfl, rfl, rfl, by decide +kernel, rfl, by decide +kernel, by decide +kernel⟩
theorem sc_part_now : FnScope ["self", "lifter"] ["self", "lifter"] (defScope s_part_now) := ⟨rfl, rfl, rfl, by decide +kernel, rfl, by decide +kernel, by decide +kernel⟩
theorem sc_tried_last : FnScope ["self"] ["self"] (defScope s_tried_last) := ⟨rfl, rfl, rfl, by decide +kernel, rfl, by decide +kernel, by decide +kernel⟩
theorem sc_bar : FnScope ["self", "lifter"] ["self"] (defScope s_bar) := ⟨rfl, rfl, rfl, by decide +kernel, rfl, by decide +kernel, by decide +kernel⟩
theorem sc_note_attempt : FnScope ["self", "lifter", "mark"] ["self", "lifter", "mark"] (defScope s_note_attempt) := ⟨rfl, rfl, rfl, by decide +kernel, rfl, by decide +kernel, by decide +kernel⟩
theorem sc_move_on : FnScope ["self"] ["self"] (defScope s_move_on) := ⟨rfl, rfl, rfl, by decide +kernel, rfl, by decide +kernel, by decide +kernel⟩
theorem sc_left : FnScope ["board", "lifter"] ["board"] (defScope s_left) := ⟨rfl, rfl, rfl, by decide +kernel, rfl, by decide +kernel, by decide +kernel⟩
theorem sc_calling_row : FnScope ["board", "lifter", "part"] ["board", "lifter"] (defScope s_calling_row) := ⟨rfl, rfl, rfl, by decide +kernel, rfl, by decide +kernel, by decide +kernel⟩
theorem sc_calling_order : FnScope ["board", "lifter"] ["board"] (defScope s_calling_order) := ⟨rfl, rfl, rfl, by decide +kernel, rfl, by decide +kernel, by decide +kernel⟩
theorem sc_first_called : FnScope ["board", "row"] ["board"] (defScope s_first_called) := ⟨rfl, rfl, rfl, by decide +kernel, rfl, by decide +kernel, by decide +kernel⟩
theorem sc_up : FnScope ["board", "lifter", "weight", "seconds"] ["board"] (defScope s_up) := ⟨rfl, rfl, rfl, by decide +kernel, rfl, by decide +kernel, by decide +kernel⟩
theorem sc_order : FnScope ["board", "rows", "told", "row"] ["board"] (defScope s_order) := ⟨rfl, rfl, rfl, by decide +kernel, rfl, by decide +kernel, by decide +kernel⟩
theorem sc_try_one : FnScope ["board", "good", "lifter", "weight"] ["board", "good"] (defScope s_try_one) := ⟨rfl, rfl, rfl, by decide +kernel, rfl, by decide +kernel, by decide +kernel⟩
theorem sc_turn_round : FnScope ["board", "lifter", "part"] ["board"] (defScope s_turn_round) := ⟨rfl, rfl, rfl, by decide +kernel, rfl, by decide +kernel, by decide +kernel⟩
theorem sc_last_comes_ahead : FnScope ["board", "lifter", "last", "theirs", "before", "part", "were"] ["board", "lifter"] (defScope s_last_comes_ahead) := ⟨rfl, rfl, rfl, by decide +kernel, rfl, by decide +kernel, by decide +kernel⟩
theorem sc_may_ask : FnScope ["board", "lifter", "weight", "bar"] ["board", "lifter", "weight"] (defScope s_may_ask) := ⟨rfl, rfl, rfl, by decide +kernel, rfl, by decide +kernel, by decide +kernel⟩
theorem sc_change : FnScope ["board", "lifter", "weight", "part", "who", "asked"] ["board", "lifter", "weight"] (defScope s_change) := ⟨rfl, rfl, rfl, by decide +kernel, rfl, by decide +kernel, by decide +kernel⟩
theorem sc_right_team : FnScope ["team"] ["team"] (defScope s_right_team) := ⟨rfl, rfl, rfl, by decide +kernel, rfl, by decide +kernel, by decide +kernel⟩
theorem sc_right_teams : FnScope ["teams", "team"] ["teams"] (defScope s_right_teams) := ⟨rfl, rfl, rfl, by decide +kernel, rfl, by decide +kernel, by decide +kernel⟩
theorem sc_begin : FnScope ["board", "teams"] ["board", "teams"] (defScope s_begin) := ⟨rfl, rfl, rfl, by decide +kernel, rfl, by decide +kernel, by decide +kernel⟩
theorem sc_ask : FnScope ["board", "lifter", "first", "second"] ["board", "lifter", "first", "second"] (defScope s_ask) := ⟨rfl, rfl, rfl, by decide +kernel, rfl, by decide +kernel, by decide +kernel⟩
theorem sc_all_asked : FnScope ["board", "part"] ["board"] (defScope s_all_asked) := ⟨rfl, rfl, rfl, by decide +kernel, rfl, by decide +kernel, by decide +kernel⟩
theorem sc_start : FnScope ["board"] ["board"] (defScope s_start) := ⟨rfl, rfl, rfl, by decide +kernel, rfl, by decide +kernel, by decide +kernel⟩
theorem sc_card : FnScope ["board", "lifter", "lift", "part", "told", "at"] ["board", "lifter", "lift"] (defScope s_card) := ⟨rfl, rfl, rfl, by decide +kernel, rfl, by decide +kernel, by decide +kernel⟩
theorem sc_result : FnScope ["board", "which", "lifter", "first", "before", "second", "moment"] ["board", "which", "lifter"] (defScope s_result) := ⟨rfl, rfl, rfl, by decide +kernel, rfl, by decide +kernel, by decide +kernel⟩
theorem sc_ranking : FnScope ["board", "which", "rows", "lifter", "weight", "moment"] ["board", "which"] (defScope s_ranking) := ⟨rfl, rfl, rfl, by decide +kernel, rfl, by decide +kernel, by decide +kernel⟩
theorem sc_ranked : FnScope ["board", "which", "rows", "told", "row"] ["board", "which"] (defScope s_ranked) := ⟨rfl, rfl, rfl, by decide +kernel, rfl, by decide +kernel, by decide +kernel⟩
theorem sc_worth : FnScope ["place"] ["place"] (defScope s_worth) := ⟨rfl, rfl, rfl, by decide +kernel, rfl, by decide +kernel, by decide +kernel⟩
theorem sc_order_points : FnScope ["board", "which", "team", "total", "at", "row"] ["board", "which", "team"] (defScope s_order_points) := ⟨rfl, rfl, rfl, by decide +kernel, rfl, by decide +kernel, by decide +kernel⟩
theorem sc_points : FnScope ["board", "team", "total", "which"] ["board", "team"] (defScope s_points) := ⟨rfl, rfl, rfl, by decide +kernel, rfl, by decide +kernel, by decide +kernel⟩
theorem sc_call_length : FnScope ["calls", "at"] ["calls", "at"] (defScope s_call_length) := ⟨rfl, rfl, rfl, by decide +kernel, rfl, by decide +kernel, by decide +kernel⟩
theorem sc_answer_ahead : FnScope ["board", "calls", "at", "number"] ["board", "calls", "at"] (defScope s_answer_ahead) := ⟨rfl, rfl, rfl, by decide +kernel, rfl, by decide +kernel, by decide +kernel⟩
theorem sc_answer_behind : FnScope ["board", "calls", "at", "number"] ["board", "calls", "at"] (defScope s_answer_behind) := ⟨rfl, rfl, rfl, by decide +kernel, rfl, by decide +kernel, by decide +kernel⟩
theorem sc_answer : FnScope ["board", "calls", "at"] ["board", "calls", "at"] (defScope s_answer) := ⟨rfl, rfl, rfl, by decide +kernel, rfl, by decide +kernel, by decide +kernel⟩
theorem sc_answers : FnScope ["calls", "board", "said", "at", "told"] ["calls"] (defScope s_answers) := ⟨rfl, rfl, rfl, by decide +kernel, rfl, by decide +kernel, by decide +kernel⟩
/-- where what the top has written stands -/
structure Adr where
  Part : Addr
  Board : Addr
  f_right_weight : Addr
  d_right_weight : FuncData
  f_Part_init : Addr
  d_Part_init : FuncData
  f_made : Addr
  d_made : FuncData
  f_moment : Addr
  d_moment : FuncData
  f_last_weight : Addr
  d_last_weight : FuncData
  f_last_mark : Addr
  d_last_mark : FuncData
  f_needs : Addr
  d_needs : FuncData
  f_best : Addr
  d_best : FuncData
  f_ask_for : Addr
  d_ask_for : FuncData
  f_change_to : Addr
  d_change_to : FuncData
  f_take : Addr
  d_take : FuncData
  f_turn : Addr
  d_turn : FuncData
  f_Board_init : Addr
  d_Board_init : FuncData
  f_renew : Addr
  d_renew : FuncData
  f_begun : Addr
  d_begun : FuncData
  f_running : Addr
  d_running : FuncData
  f_knows : Addr
  d_knows : FuncData
  f_part_now : Addr
  d_part_now : FuncData
  f_tried_last : Addr
  d_tried_last : FuncData
  f_bar : Addr
  d_bar : FuncData
  f_note_attempt : Addr
  d_note_attempt : FuncData
  f_move_on : Addr
  d_move_on : FuncData
  f_left : Addr
  d_left : FuncData
  f_calling_row : Addr
  d_calling_row : FuncData
  f_calling_order : Addr
  d_calling_order : FuncData
  f_first_called : Addr
  d_first_called : FuncData
  f_up : Addr
  d_up : FuncData
  f_order : Addr
  d_order : FuncData
  f_try_one : Addr
  d_try_one : FuncData
  f_turn_round : Addr
  d_turn_round : FuncData
  f_last_comes_ahead : Addr
  d_last_comes_ahead : FuncData
  f_may_ask : Addr
  d_may_ask : FuncData
  f_change : Addr
  d_change : FuncData
  f_right_team : Addr
  d_right_team : FuncData
  f_right_teams : Addr
  d_right_teams : FuncData
  f_begin : Addr
  d_begin : FuncData
  f_ask : Addr
  d_ask : FuncData
  f_all_asked : Addr
  d_all_asked : FuncData
  f_start : Addr
  d_start : FuncData
  f_card : Addr
  d_card : FuncData
  f_result : Addr
  d_result : FuncData
  f_ranking : Addr
  d_ranking : FuncData
  f_ranked : Addr
  d_ranked : FuncData
  f_worth : Addr
  d_worth : FuncData
  f_order_points : Addr
  d_order_points : FuncData
  f_points : Addr
  d_points : FuncData
  f_call_length : Addr
  d_call_length : FuncData
  f_answer_ahead : Addr
  d_answer_ahead : FuncData
  f_answer_behind : Addr
  d_answer_behind : FuncData
  f_answer : Addr
  d_answer : FuncData
  f_answers : Addr
  d_answers : FuncData
/-- what the top has written -/
structure Txt (K : PySem.W.Frag) (mg : Str → Option Value) (A : Adr) : Prop where
  cl_Part : Cls K A.Part
  g_Part : mg "Part" = some (.ref A.Part)
  mk_Part : Mk K A.Part A.f_Part_init
  n_asks : NoAttr K A.Part "asks"
  n_changed : NoAttr K A.Part "changed"
  n_weights : NoAttr K A.Part "weights"
  n_marks : NoAttr K A.Part "marks"
  n_moments : NoAttr K A.Part "moments"
  cl_Board : Cls K A.Board
  g_Board : mg "Board" = some (.ref A.Board)
  mk_Board : Mk K A.Board A.f_Board_init
  n_teams : NoAttr K A.Board "teams"
  n_parts : NoAttr K A.Board "parts"
  n_lift : NoAttr K A.Board "lift"
  n_tries : NoAttr K A.Board "tries"
  n_newest_lifter : NoAttr K A.Board "newest_lifter"
  n_newest_lift : NoAttr K A.Board "newest_lift"
  F_right_weight : Fun K "right_weight" "right_weight" s_right_weight A.f_right_weight A.d_right_weight
  g_right_weight : mg "right_weight" = some (.ref A.f_right_weight)
  F_Part_init : Fun K "__init__" "Part.__init__" s_Part_init A.f_Part_init A.d_Part_init
  F_made : Fun K "made" "Part.made" s_made A.f_made A.d_made
  m_made : Meth K A.Part "made" A.f_made
  F_moment : Fun K "moment" "Part.moment" s_moment A.f_moment A.d_moment
  m_moment : Meth K A.Part "moment" A.f_moment
  F_last_weight : Fun K "last_weight" "Part.last_weight" s_last_weight A.f_last_weight A.d_last_weight
  m_last_weight : Meth K A.Part "last_weight" A.f_last_weight
  F_last_mark : Fun K "last_mark" "Part.last_mark" s_last_mark A.f_last_mark A.d_last_mark
  m_last_mark : Meth K A.Part "last_mark" A.f_last_mark
  F_needs : Fun K "needs" "Part.needs" s_needs A.f_needs A.d_needs
  m_needs : Meth K A.Part "needs" A.f_needs
  F_best : Fun K "best" "Part.best" s_best A.f_best A.d_best
  m_best : Meth K A.Part "best" A.f_best
  F_ask_for : Fun K "ask_for" "Part.ask_for" s_ask_for A.f_ask_for A.d_ask_for
  m_ask_for : Meth K A.Part "ask_for" A.f_ask_for
  F_change_to : Fun K "change_to" "Part.change_to" s_change_to A.f_change_to A.d_change_to
  m_change_to : Meth K A.Part "change_to" A.f_change_to
  F_take : Fun K "take" "Part.take" s_take A.f_take A.d_take
  m_take : Meth K A.Part "take" A.f_take
  F_turn : Fun K "turn" "Part.turn" s_turn A.f_turn A.d_turn
  m_turn : Meth K A.Part "turn" A.f_turn
  F_Board_init : Fun K "__init__" "Board.__init__" s_Board_init A.f_Board_init A.d_Board_init
  F_renew : Fun K "renew" "Board.renew" s_renew A.f_renew A.d_renew
  m_renew : Meth K A.Board "renew" A.f_renew
  F_begun : Fun K "begun" "Board.begun" s_begun A.f_begun A.d_begun
  m_begun : Meth K A.Board "begun" A.f_begun
  F_running : Fun K "running" "Board.running" s_running A.f_running A.d_running
  m_running : Meth K A.Board "running" A.f_running
  F_knows : Fun K "knows" "Board.knows" s_knows A.f_knows A.d_knows
  m_knows : Meth K A.Board "knows" A.f_knows
  F_part_now : Fun K "part_now" "Board.part_now" s_part_now A.f_part_now A.d_part_now
  m_part_now : Meth K A.Board "part_now" A.f_part_now
  F_tried_last : Fun K "tried_last" "Board.tried_last" s_tried_last A.f_tried_last A.d_tried_last
  m_tried_last : Meth K A.Board "tried_last" A.f_tried_last
  F_bar : Fun K "bar" "Board.bar" s_bar A.f_bar A.d_bar
  m_bar : Meth K A.Board "bar" A.f_bar
  F_note_attempt : Fun K "note_attempt" "Board.note_attempt" s_note_attempt A.f_note_attempt A.d_note_attempt
  m_note_attempt : Meth K A.Board "note_attempt" A.f_note_attempt
  F_move_on : Fun K "move_on" "Board.move_on" s_move_on A.f_move_on A.d_move_on
  m_move_on : Meth K A.Board "move_on" A.f_move_on
  F_left : Fun K "left" "left" s_left A.f_left A.d_left
  g_left : mg "left" = some (.ref A.f_left)
  F_calling_row : Fun K "calling_row" "calling_row" s_calling_row A.f_calling_row A.d_calling_row
  g_calling_row : mg "calling_row" = some (.ref A.f_calling_row)
  F_calling_order : Fun K "calling_order" "calling_order" s_calling_order A.f_calling_order A.d_calling_order
  g_calling_order : mg "calling_order" = some (.ref A.f_calling_order)
  F_first_called : Fun K "first_called" "first_called" s_first_called A.f_first_called A.d_first_called
  g_first_called : mg "first_called" = some (.ref A.f_first_called)
  F_up : Fun K "up" "up" s_up A.f_up A.d_up
  g_up : mg "up" = some (.ref A.f_up)
  F_order : Fun K "order" "order" s_order A.f_order A.d_order
  g_order : mg "order" = some (.ref A.f_order)
  F_try_one : Fun K "try_one" "try_one" s_try_one A.f_try_one A.d_try_one
  g_try_one : mg "try_one" = some (.ref A.f_try_one)
  F_turn_round : Fun K "turn_round" "turn_round" s_turn_round A.f_turn_round A.d_turn_round
  g_turn_round : mg "turn_round" = some (.ref A.f_turn_round)
  F_last_comes_ahead : Fun K "last_comes_ahead" "last_comes_ahead" s_last_comes_ahead A.f_last_comes_ahead A.d_last_comes_ahead
  g_last_comes_ahead : mg "last_comes_ahead" = some (.ref A.f_last_comes_ahead)
  F_may_ask : Fun K "may_ask" "may_ask" s_may_ask A.f_may_ask A.d_may_ask
  g_may_ask : mg "may_ask" = some (.ref A.f_may_ask)
  F_change : Fun K "change" "change" s_change A.f_change A.d_change
  g_change : mg "change" = some (.ref A.f_change)
  F_right_team : Fun K "right_team" "right_team" s_right_team A.f_right_team A.d_right_team
  g_right_team : mg "right_team" = some (.ref A.f_right_team)
  F_right_teams : Fun K "right_teams" "right_teams" s_right_teams A.f_right_teams A.d_right_teams
  g_right_teams : mg "right_teams" = some (.ref A.f_right_teams)
  F_begin : Fun K "begin" "begin" s_begin A.f_begin A.d_begin
  g_begin : mg "begin" = some (.ref A.f_begin)
  F_ask : Fun K "ask" "ask" s_ask A.f_ask A.d_ask
  g_ask : mg "ask" = some (.ref A.f_ask)
  F_all_asked : Fun K "all_asked" "all_asked" s_all_asked A.f_all_asked A.d_all_asked
  g_all_asked : mg "all_asked" = some (.ref A.f_all_asked)
  F_start : Fun K "start" "start" s_start A.f_start A.d_start
  g_start : mg "start" = some (.ref A.f_start)
  F_card : Fun K "card" "card" s_card A.f_card A.d_card
  g_card : mg "card" = some (.ref A.f_card)
  F_result : Fun K "result" "result" s_result A.f_result A.d_result
  g_result : mg "result" = some (.ref A.f_result)
  F_ranking : Fun K "ranking" "ranking" s_ranking A.f_ranking A.d_ranking
  g_ranking : mg "ranking" = some (.ref A.f_ranking)
  F_ranked : Fun K "ranked" "ranked" s_ranked A.f_ranked A.d_ranked
  g_ranked : mg "ranked" = some (.ref A.f_ranked)
  F_worth : Fun K "worth" "worth" s_worth A.f_worth A.d_worth
  g_worth : mg "worth" = some (.ref A.f_worth)
  F_order_points : Fun K "order_points" "order_points" s_order_points A.f_order_points A.d_order_points
  g_order_points : mg "order_points" = some (.ref A.f_order_points)
  F_points : Fun K "points" "points" s_points A.f_points A.d_points
  g_points : mg "points" = some (.ref A.f_points)
  F_call_length : Fun K "call_length" "call_length" s_call_length A.f_call_length A.d_call_length
  g_call_length : mg "call_length" = some (.ref A.f_call_length)
  F_answer_ahead : Fun K "answer_ahead" "answer_ahead" s_answer_ahead A.f_answer_ahead A.d_answer_ahead
  g_answer_ahead : mg "answer_ahead" = some (.ref A.f_answer_ahead)
  F_answer_behind : Fun K "answer_behind" "answer_behind" s_answer_behind A.f_answer_behind A.d_answer_behind
  g_answer_behind : mg "answer_behind" = some (.ref A.f_answer_behind)
  F_answer : Fun K "answer" "answer" s_answer A.f_answer A.d_answer
  g_answer : mg "answer" = some (.ref A.f_answer)
  F_answers : Fun K "answers" "answers" s_answers A.f_answers A.d_answers
  g_answers : mg "answers" = some (.ref A.f_answers)
  c_ATTEMPTS : ∃ t, mg "ATTEMPTS" = some (.int (3) t)
  c_CHANGES : ∃ t, mg "CHANGES" = some (.int (2) t)
  c_LEAST_WEIGHT : ∃ t, mg "LEAST_WEIGHT" = some (.int (1) t)
  c_MOST_WEIGHT : ∃ t, mg "MOST_WEIGHT" = some (.int (500) t)
  c_GOOD : ∃ t, mg "GOOD" = some (.int (1) t)
  c_PASSED : ∃ t, mg "PASSED" = some (.int (2) t)
  c_NOBODY : ∃ t, mg "NOBODY" = some (.int (-1) t)
  c_WAITING : ∃ t, mg "WAITING" = some (.int (-1) t)
  c_OVER : ∃ t, mg "OVER" = some (.int (2) t)
  c_OWN_SECONDS : ∃ t, mg "OWN_SECONDS" = some (.int (120) t)
  c_SECONDS : ∃ t, mg "SECONDS" = some (.int (60) t)
  c_MOST_LIFTERS : ∃ t, mg "MOST_LIFTERS" = some (.int (24) t)
  c_MOST_TEAM : ∃ t, mg "MOST_TEAM" = some (.int (20) t)
  c_NOTHING : ∃ a, mg "NOTHING" = some (.ref a) ∧ ∀ H, SqT K H a [.int 0, .int 0]
  c_ORDERS : ∃ t, mg "ORDERS" = some (.int (3) t)
  c_BOTH : ∃ t, mg "BOTH" = some (.int (2) t)
  c_FIRST_WORTH : ∃ t, mg "FIRST_WORTH" = some (.int (28) t)
  c_SECOND_WORTH : ∃ t, mg "SECOND_WORTH" = some (.int (25) t)
  c_PLACES : ∃ t, mg "PLACES" = some (.int (25) t)
  c_BEGIN : ∃ t, mg "BEGIN" = some (.int (1) t)
  c_MANY_NUMBERS : ∃ a, mg "MANY_NUMBERS" = some (.ref a) ∧ ∀ H, SqT K H a [.int 0, .int 0, .int 3, .int 0, .int 0, .int 0, .int 1, .int 2, .int 0, .int 2, .int 1, .int 1]
  b_enumerate : mg "enumerate" = none
  b_len : mg "len" = none
  b_list : mg "list" = none
  b_max : mg "max" = none
  b_range : mg "range" = none
  b_sorted : mg "sorted" = none
section
variable {K : PySem.W.Frag} {mg : Str → Option Value} {A : Adr}
theorem b_right_weight (T : Txt K mg A) : Binds K A.d_right_weight ["weight"] [] := T.F_right_weight.binds fun _ _ _ _ _ _ us hl => match us, hl with | [_], _ => rfl
theorem b_Part_init (T : Txt K mg A) : Binds K A.d_Part_init ["self"] [] := T.F_Part_init.binds fun _ _ _ _ _ _ us hl => match us, hl with | [_], _ => rfl
theorem b_made (T : Txt K mg A) : Binds K A.d_made ["self"] [] := T.F_made.binds fun _ _ _ _ _ _ us hl => match us, hl with | [_], _ => rfl
theorem b_moment (T : Txt K mg A) : Binds K A.d_moment ["self", "many"] [] := T.F_moment.binds fun _ _ _ _ _ _ us hl => match us, hl with | [_, _], _ => rfl
theorem b_last_weight (T : Txt K mg A) : Binds K A.d_last_weight ["self"] [] := T.F_last_weight.binds fun _ _ _ _ _ _ us hl => match us, hl with | [_], _ => rfl
theorem b_last_mark (T : Txt K mg A) : Binds K A.d_last_mark ["self"] [] := T.F_last_mark.binds fun _ _ _ _ _ _ us hl => match us, hl with | [_], _ => rfl
theorem b_needs (T : Txt K mg A) : Binds K A.d_needs ["self"] [] := T.F_needs.binds fun _ _ _ _ _ _ us hl => match us, hl with | [_], _ => rfl
theorem b_best (T : Txt K mg A) : Binds K A.d_best ["self"] [] := T.F_best.binds fun _ _ _ _ _ _ us hl => match us, hl with | [_], _ => rfl
theorem b_ask_for (T : Txt K mg A) : Binds K A.d_ask_for ["self", "weight"] [] := T.F_ask_for.binds fun _ _ _ _ _ _ us hl => match us, hl with | [_, _], _ => rfl
theorem b_change_to (T : Txt K mg A) : Binds K A.d_change_to ["self", "weight"] [] := T.F_change_to.binds fun _ _ _ _ _ _ us hl => match us, hl with | [_, _], _ => rfl
theorem b_take (T : Txt K mg A) : Binds K A.d_take ["self", "mark", "moment"] [] := T.F_take.binds fun _ _ _ _ _ _ us hl => match us, hl with | [_, _, _], _ => rfl
theorem b_turn (T : Txt K mg A) : Binds K A.d_turn ["self"] [] := T.F_turn.binds fun _ _ _ _ _ _ us hl => match us, hl with | [_], _ => rfl
theorem b_Board_init (T : Txt K mg A) : Binds K A.d_Board_init ["self"] [] := T.F_Board_init.binds fun _ _ _ _ _ _ us hl => match us, hl with | [_], _ => rfl
theorem b_renew (T : Txt K mg A) : Binds K A.d_renew ["self", "teams"] [] := T.F_renew.binds fun _ _ _ _ _ _ us hl => match us, hl with | [_, _], _ => rfl
theorem b_begun (T : Txt K mg A) : Binds K A.d_begun ["self"] [] := T.F_begun.binds fun _ _ _ _ _ _ us hl => match us, hl with | [_], _ => rfl
theorem b_running (T : Txt K mg A) : Binds K A.d_running ["self"] [] := T.F_running.binds fun _ _ _ _ _ _ us hl => match us, hl with | [_], _ => rfl
theorem b_knows (T : Txt K mg A) : Binds K A.d_knows ["self", "lifter"] [] := T.F_knows.binds fun _ _ _ _ _ _ us hl => match us, hl with | [_, _], _ => rfl
theorem b_part_now (T : Txt K mg A) : Binds K A.d_part_now ["self", "lifter"] [] := T.F_part_now.binds fun _ _ _ _ _ _ us hl => match us, hl with | [_, _], _ => rfl
theorem b_tried_last (T : Txt K mg A) : Binds K A.d_tried_last ["self"] [] := T.F_tried_last.binds fun _ _ _ _ _ _ us hl => match us, hl with | [_], _ => rfl
theorem b_bar (T : Txt K mg A) : Binds K A.d_bar ["self"] [] := T.F_bar.binds fun _ _ _ _ _ _ us hl => match us, hl with | [_], _ => rfl
theorem b_note_attempt (T : Txt K mg A) : Binds K A.d_note_attempt ["self", "lifter", "mark"] [] := T.F_note_attempt.binds fun _ _ _ _ _ _ us hl => match us, hl with | [_, _, _], _ => rfl
theorem b_move_on (T : Txt K mg A) : Binds K A.d_move_on ["self"] [] := T.F_move_on.binds fun _ _ _ _ _ _ us hl => match us, hl with | [_], _ => rfl
theorem b_left (T : Txt K mg A) : Binds K A.d_left ["board"] [] := T.F_left.binds fun _ _ _ _ _ _ us hl => match us, hl with | [_], _ => rfl
theorem b_calling_row (T : Txt K mg A) : Binds K A.d_calling_row ["board", "lifter"] [] := T.F_calling_row.binds fun _ _ _ _ _ _ us hl => match us, hl with | [_, _], _ => rfl
theorem b_calling_order (T : Txt K mg A) : Binds K A.d_calling_order ["board"] [] := T.F_calling_order.binds fun _ _ _ _ _ _ us hl => match us, hl with | [_], _ => rfl
theorem b_first_called (T : Txt K mg A) : Binds K A.d_first_called ["board"] [] := T.F_first_called.binds fun _ _ _ _ _ _ us hl => match us, hl with | [_], _ => rfl
theorem b_up (T : Txt K mg A) : Binds K A.d_up ["board"] [] := T.F_up.binds fun _ _ _ _ _ _ us hl => match us, hl with | [_], _ => rfl
theorem b_order (T : Txt K mg A) : Binds K A.d_order ["board"] [] := T.F_order.binds fun _ _ _ _ _ _ us hl => match us, hl with | [_], _ => rfl
theorem b_try_one (T : Txt K mg A) : Binds K A.d_try_one ["board", "good"] [] := T.F_try_one.binds fun _ _ _ _ _ _ us hl => match us, hl with | [_, _], _ => rfl
theorem b_turn_round (T : Txt K mg A) : Binds K A.d_turn_round ["board"] [] := T.F_turn_round.binds fun _ _ _ _ _ _ us hl => match us, hl with | [_], _ => rfl
theorem b_last_comes_ahead (T : Txt K mg A) : Binds K A.d_last_comes_ahead ["board", "lifter"] [] := T.F_last_comes_ahead.binds fun _ _ _ _ _ _ us hl => match us, hl with | [_, _], _ => rfl
theorem b_may_ask (T : Txt K mg A) : Binds K A.d_may_ask ["board", "lifter", "weight"] [] := T.F_may_ask.binds fun _ _ _ _ _ _ us hl => match us, hl with | [_, _, _], _ => rfl
theorem b_change (T : Txt K mg A) : Binds K A.d_change ["board", "lifter", "weight"] [] := T.F_change.binds fun _ _ _ _ _ _ us hl => match us, hl with | [_, _, _], _ => rfl
theorem b_right_team (T : Txt K mg A) : Binds K A.d_right_team ["team"] [] := T.F_right_team.binds fun _ _ _ _ _ _ us hl => match us, hl with | [_], _ => rfl
theorem b_right_teams (T : Txt K mg A) : Binds K A.d_right_teams ["teams"] [] := T.F_right_teams.binds fun _ _ _ _ _ _ us hl => match us, hl with | [_], _ => rfl
theorem b_begin (T : Txt K mg A) : Binds K A.d_begin ["board", "teams"] [] := T.F_begin.binds fun _ _ _ _ _ _ us hl => match us, hl with | [_, _], _ => rfl
theorem b_ask (T : Txt K mg A) : Binds K A.d_ask ["board", "lifter", "first", "second"] [] := T.F_ask.binds fun _ _ _ _ _ _ us hl => match us, hl with | [_, _, _, _], _ => rfl
theorem b_all_asked (T : Txt K mg A) : Binds K A.d_all_asked ["board"] [] := T.F_all_asked.binds fun _ _ _ _ _ _ us hl => match us, hl with | [_], _ => rfl
theorem b_start (T : Txt K mg A) : Binds K A.d_start ["board"] [] := T.F_start.binds fun _ _ _ _ _ _ us hl => match us, hl with | [_], _ => rfl
theorem b_card (T : Txt K mg A) : Binds K A.d_card ["board", "lifter", "lift"] [] := T.F_card.binds fun _ _ _ _ _ _ us hl => match us, hl with | [_, _, _], _ => rfl
theorem b_result (T : Txt K mg A) : Binds K A.d_result ["board", "which", "lifter"] [] := T.F_result.binds fun _ _ _ _ _ _ us hl => match us, hl with | [_, _, _], _ => rfl
theorem b_ranking (T : Txt K mg A) : Binds K A.d_ranking ["board", "which"] [] := T.F_ranking.binds fun _ _ _ _ _ _ us hl => match us, hl with | [_, _], _ => rfl
theorem b_ranked (T : Txt K mg A) : Binds K A.d_ranked ["board", "which"] [] := T.F_ranked.binds fun _ _ _ _ _ _ us hl => match us, hl with | [_, _], _ => rfl
theorem b_worth (T : Txt K mg A) : Binds K A.d_worth ["place"] [] := T.F_worth.binds fun _ _ _ _ _ _ us hl => match us, hl with | [_], _ => rfl
theorem b_order_points (T : Txt K mg A) : Binds K A.d_order_points ["board", "which", "team"] [] := T.F_order_points.binds fun _ _ _ _ _ _ us hl => match us, hl with | [_, _, _], _ => rfl
theorem b_points (T : Txt K mg A) : Binds K A.d_points ["board", "team"] [] := T.F_points.binds fun _ _ _ _ _ _ us hl => match us, hl with | [_, _], _ => rfl
theorem b_call_length (T : Txt K mg A) : Binds K A.d_call_length ["calls", "at"] [] := T.F_call_length.binds fun _ _ _ _ _ _ us hl => match us, hl with | [_, _], _ => rfl
theorem b_answer_ahead (T : Txt K mg A) : Binds K A.d_answer_ahead ["board", "calls", "at"] [] := T.F_answer_ahead.binds fun _ _ _ _ _ _ us hl => match us, hl with | [_, _, _], _ => rfl
theorem b_answer_behind (T : Txt K mg A) : Binds K A.d_answer_behind ["board", "calls", "at"] [] := T.F_answer_behind.binds fun _ _ _ _ _ _ us hl => match us, hl with | [_, _, _], _ => rfl
theorem b_answer (T : Txt K mg A) : Binds K A.d_answer ["board", "calls", "at"] [] := T.F_answer.binds fun _ _ _ _ _ _ us hl => match us, hl with | [_, _, _], _ => rfl
theorem b_answers (T : Txt K mg A) : Binds K A.d_answers ["calls"] [] := T.F_answers.binds fun _ _ _ _ _ _ us hl => match us, hl with | [_], _ => rfl
end
end BC
/-! BcFacts -/
namespace BC
open PySem PySem.Spec PyProof.Rows L2
theorem txt_mk {K : PySem.W.Frag} {h : Heap} {mg : Str → Option Value} {Part Board f_right_weight f_Part_init f_made f_moment f_last_weight f_last_mark f_needs f_best f_ask_for f_change_to f_take f_turn f_Board_init f_renew f_begun f_running f_knows f_part_now f_tried_last f_bar f_note_attempt f_move_on f_left f_calling_row f_calling_order f_first_called f_up f_order f_try_one f_turn_round f_last_comes_ahead f_may_ask f_change f_right_team f_right_teams f_begin f_ask f_all_asked f_start f_card f_result f_ranking f_ranked f_worth f_order_points f_points f_call_length f_answer_ahead f_answer_behind f_answer f_answers : Addr} (X : K.In h) (G : h.Ns mainGlobals mg)
    {od_right_weight an_right_weight : Option Addr} {sl_right_weight : Array (Option Value)} {oc_right_weight kV_right_weight dc_right_weight pm_right_weight cd_right_weight ct_right_weight : Value}
    {od_Part_init an_Part_init : Option Addr} {sl_Part_init : Array (Option Value)} {oc_Part_init kV_Part_init dc_Part_init pm_Part_init cd_Part_init ct_Part_init : Value}
    {od_made an_made : Option Addr} {sl_made : Array (Option Value)} {oc_made kV_made dc_made pm_made cd_made ct_made : Value}
    {od_moment an_moment : Option Addr} {sl_moment : Array (Option Value)} {oc_moment kV_moment dc_moment pm_moment cd_moment ct_moment : Value}
    {od_last_weight an_last_weight : Option Addr} {sl_last_weight : Array (Option Value)} {oc_last_weight kV_last_weight dc_last_weight pm_last_weight cd_last_weight ct_last_weight : Value}
    {od_last_mark an_last_mark : Option Addr} {sl_last_mark : Array (Option Value)} {oc_last_mark kV_last_mark dc_last_mark pm_last_mark cd_last_mark ct_last_mark : Value}
    {od_needs an_needs : Option Addr} {sl_needs : Array (Option Value)} {oc_needs kV_needs dc_needs pm_needs cd_needs ct_needs : Value}
    {od_best an_best : Option Addr} {sl_best : Array (Option Value)} {oc_best kV_best dc_best pm_best cd_best ct_best : Value}
    {od_ask_for an_ask_for : Option Addr} {sl_ask_for : Array (Option Value)} {oc_ask_for kV_ask_for dc_ask_for pm_ask_for cd_ask_for ct_ask_for : Value}
    {od_change_to an_change_to : Option Addr} {sl_change_to : Array (Option Value)} {oc_change_to kV_change_to dc_change_to pm_change_to cd_change_to ct_change_to : Value}
    {od_take an_take : Option Addr} {sl_take : Array (Option Value)} {oc_take kV_take dc_take pm_take cd_take ct_take : Value}
    {od_turn an_turn : Option Addr} {sl_turn : Array (Option Value)} {oc_turn kV_turn dc_turn pm_turn cd_turn ct_turn : Value}
    {od_Board_init an_Board_init : Option Addr} {sl_Board_init : Array (Option Value)} {oc_Board_init kV_Board_init dc_Board_init pm_Board_init cd_Board_init ct_Board_init : Value}
    {od_renew an_renew : Option Addr} {sl_renew : Array (Option Value)} {oc_renew kV_renew dc_renew pm_renew cd_renew ct_renew : Value}
    {od_begun an_begun : Option Addr} {sl_begun : Array (Option Value)} {oc_begun kV_begun dc_begun pm_begun cd_begun ct_begun : Value}
    {od_running an_running : Option Addr} {sl_running : Array (Option Value)} {oc_running kV_running dc_running pm_running cd_running ct_running : Value}
    {od_knows an_knows : Option Addr} {sl_knows : Array (Option Value)} {oc_knows kV_knows dc_knows pm_knows cd_knows ct_knows : Value}
    {od_part_now an_part_now : Option Addr} {sl_part_now : Array (Option Value)} {oc_part_now kV_part_now dc_part_now pm_part_now cd_part_now ct_part_now : Value}
    {od_tried_last an_tried_last : Option Addr} {sl_tried_last : Array (Option Value)} {oc_tried_last kV_tried_last dc_tried_last pm_tried_last cd_tried_last ct_tried_last : Value}
    {od_bar an_bar : Option Addr} {sl_bar : Array (Option Value)} {oc_bar kV_bar dc_bar pm_bar cd_bar ct_bar : Value}
    {od_note_attempt an_note_attempt : Option Addr} {sl_note_attempt : Array (Option Value)} {oc_note_attempt kV_note_attempt dc_note_attempt pm_note_attempt cd_note_attempt ct_note_attempt : Value}
    {od_move_on an_move_on : Option Addr} {sl_move_on : Array (Option Value)} {oc_move_on kV_move_on dc_move_on pm_move_on cd_move_on ct_move_on : Value}
    {od_left an_left : Option Addr} {sl_left : Array (Option Value)} {oc_left kV_left dc_left pm_left cd_left ct_left : Value}
    {od_calling_row an_calling_row : Option Addr} {sl_calling_row : Array (Option Value)} {oc_calling_row kV_calling_row dc_calling_row pm_calling_row cd_calling_row ct_calling_row : Value}
    {od_calling_order an_calling_order : Option Addr} {sl_calling_order : Array (Option Value)} {oc_calling_order kV_calling_order dc_calling_order pm_calling_order cd_calling_order ct_calling_order : Value}
    {od_first_called an_first_called : Option Addr} {sl_first_called : Array (Option Value)} {oc_first_called kV_first_called dc_first_called pm_first_called cd_first_called ct_first_called : Value}
    {od_up an_up : Option Addr} {sl_up : Array (Option Value)} {oc_up kV_up dc_up pm_up cd_up ct_up : Value}
    {od_order an_order : Option Addr} {sl_order : Array (Option Value)} {oc_order kV_order dc_order pm_order cd_order ct_order : Value}
    {od_try_one an_try_one : Option Addr} {sl_try_one : Array (Option Value)} {oc_try_one kV_try_one dc_try_one pm_try_one cd_try_one ct_try_one : Value}
    {od_turn_round an_turn_round : Option Addr} {sl_turn_round : Array (Option Value)} {oc_turn_round kV_turn_round dc_turn_round pm_turn_round cd_turn_round ct_turn_round : Value}
    {od_last_comes_ahead an_last_comes_ahead : Option Addr} {sl_last_comes_ahead : Array (Option Value)} {oc_last_comes_ahead kV_last_comes_ahead dc_last_comes_ahead pm_last_comes_ahead cd_last_comes_ahead ct_last_comes_ahead : Value}
    {od_may_ask an_may_ask : Option Addr} {sl_may_ask : Array (Option Value)} {oc_may_ask kV_may_ask dc_may_ask pm_may_ask cd_may_ask ct_may_ask : Value}
    {od_change an_change : Option Addr} {sl_change : Array (Option Value)} {oc_change kV_change dc_change pm_change cd_change ct_change : Value}
    {od_right_team an_right_team : Option Addr} {sl_right_team : Array (Option Value)} {oc_right_team kV_right_team dc_right_team pm_right_team cd_right_team ct_right_team : Value}
    {od_right_teams an_right_teams : Option Addr} {sl_right_teams : Array (Option Value)} {oc_right_teams kV_right_teams dc_right_teams pm_right_teams cd_right_teams ct_right_teams : Value}
    {od_begin an_begin : Option Addr} {sl_begin : Array (Option Value)} {oc_begin kV_begin dc_begin pm_begin cd_begin ct_begin : Value}
    {od_ask an_ask : Option Addr} {sl_ask : Array (Option Value)} {oc_ask kV_ask dc_ask pm_ask cd_ask ct_ask : Value}
    {od_all_asked an_all_asked : Option Addr} {sl_all_asked : Array (Option Value)} {oc_all_asked kV_all_asked dc_all_asked pm_all_asked cd_all_asked ct_all_asked : Value}
    {od_start an_start : Option Addr} {sl_start : Array (Option Value)} {oc_start kV_start dc_start pm_start cd_start ct_start : Value}
    {od_card an_card : Option Addr} {sl_card : Array (Option Value)} {oc_card kV_card dc_card pm_card cd_card ct_card : Value}
    {od_result an_result : Option Addr} {sl_result : Array (Option Value)} {oc_result kV_result dc_result pm_result cd_result ct_result : Value}
    {od_ranking an_ranking : Option Addr} {sl_ranking : Array (Option Value)} {oc_ranking kV_ranking dc_ranking pm_ranking cd_ranking ct_ranking : Value}
    {od_ranked an_ranked : Option Addr} {sl_ranked : Array (Option Value)} {oc_ranked kV_ranked dc_ranked pm_ranked cd_ranked ct_ranked : Value}
    {od_worth an_worth : Option Addr} {sl_worth : Array (Option Value)} {oc_worth kV_worth dc_worth pm_worth cd_worth ct_worth : Value}
    {od_order_points an_order_points : Option Addr} {sl_order_points : Array (Option Value)} {oc_order_points kV_order_points dc_order_points pm_order_points cd_order_points ct_order_points : Value}
    {od_points an_points : Option Addr} {sl_points : Array (Option Value)} {oc_points kV_points dc_points pm_points cd_points ct_points : Value}
    {od_call_length an_call_length : Option Addr} {sl_call_length : Array (Option Value)} {oc_call_length kV_call_length dc_call_length pm_call_length cd_call_length ct_call_length : Value}
    {od_answer_ahead an_answer_ahead : Option Addr} {sl_answer_ahead : Array (Option Value)} {oc_answer_ahead kV_answer_ahead dc_answer_ahead pm_answer_ahead cd_answer_ahead ct_answer_ahead : Value}
    {od_answer_behind an_answer_behind : Option Addr} {sl_answer_behind : Array (Option Value)} {oc_answer_behind kV_answer_behind dc_answer_behind pm_answer_behind cd_answer_behind ct_answer_behind : Value}
    {od_answer an_answer : Option Addr} {sl_answer : Array (Option Value)} {oc_answer kV_answer dc_answer pm_answer cd_answer ct_answer : Value}
    {od_answers an_answers : Option Addr} {sl_answers : Array (Option Value)} {oc_answers kV_answers dc_answers pm_answers cd_answers ct_answers : Value}
    {t_ATTEMPTS : Tok}
    {t_CHANGES : Tok}
    {t_LEAST_WEIGHT : Tok}
    {t_MOST_WEIGHT : Tok}
    {t_GOOD : Tok}
    {t_PASSED : Tok}
    {t_NOBODY : Tok}
    {t_WAITING : Tok}
    {t_OVER : Tok}
    {t_OWN_SECONDS : Tok}
    {t_SECONDS : Tok}
    {t_MOST_LIFTERS : Tok}
    {t_MOST_TEAM : Tok}
    {a_NOTHING : Addr} {od_NOTHING : Option Addr} {sl_NOTHING : Array (Option Value)} {m_NOTHING : Nat} {t0_NOTHING t1_NOTHING : Tok}
    {t_ORDERS : Tok}
    {t_BOTH : Tok}
    {t_FIRST_WORTH : Tok}
    {t_SECOND_WORTH : Tok}
    {t_PLACES : Tok}
    {t_BEGIN : Tok}
    {a_MANY_NUMBERS : Addr} {od_MANY_NUMBERS : Option Addr} {sl_MANY_NUMBERS : Array (Option Value)} {m_MANY_NUMBERS : Nat} {t0_MANY_NUMBERS t1_MANY_NUMBERS t2_MANY_NUMBERS t3_MANY_NUMBERS t4_MANY_NUMBERS t5_MANY_NUMBERS t6_MANY_NUMBERS t7_MANY_NUMBERS t8_MANY_NUMBERS t9_MANY_NUMBERS t10_MANY_NUMBERS t11_MANY_NUMBERS : Tok}
    (aPart : PySem.W.nsIn K mainGlobals "Part" = some (some (.ref Part)))
    (pgPart : PySem.W.plainGet K Part Str.empty = true)
    (hdPart : PySem.W.hasDictIn K Part = true)
    (poPart : PySem.W.plainOver K Part = true)
    (saPart : PySem.W.findIn K (.ref Part) "__setattr__" = some (some (.builtin "object.__setattr__")))
    (mkPart : PySem.W.makesIn K Part = true)
    (kcPart : PySem.W.keepIn K (.ref Part) = true)
    (n_asks : PySem.W.findIn K (.ref Part) "asks" = some none)
    (n_changed : PySem.W.findIn K (.ref Part) "changed" = some none)
    (n_weights : PySem.W.findIn K (.ref Part) "weights" = some none)
    (n_marks : PySem.W.findIn K (.ref Part) "marks" = some none)
    (n_moments : PySem.W.findIn K (.ref Part) "moments" = some none)
    (aBoard : PySem.W.nsIn K mainGlobals "Board" = some (some (.ref Board)))
    (pgBoard : PySem.W.plainGet K Board Str.empty = true)
    (hdBoard : PySem.W.hasDictIn K Board = true)
    (poBoard : PySem.W.plainOver K Board = true)
    (saBoard : PySem.W.findIn K (.ref Board) "__setattr__" = some (some (.builtin "object.__setattr__")))
    (mkBoard : PySem.W.makesIn K Board = true)
    (kcBoard : PySem.W.keepIn K (.ref Board) = true)
    (n_teams : PySem.W.findIn K (.ref Board) "teams" = some none)
    (n_parts : PySem.W.findIn K (.ref Board) "parts" = some none)
    (n_lift : PySem.W.findIn K (.ref Board) "lift" = some none)
    (n_tries : PySem.W.findIn K (.ref Board) "tries" = some none)
    (n_newest_lifter : PySem.W.findIn K (.ref Board) "newest_lifter" = some none)
    (n_newest_lift : PySem.W.findIn K (.ref Board) "newest_lift" = some none)
    (a_right_weight : PySem.W.nsIn K mainGlobals "right_weight" = some (some (.ref f_right_weight)))
    (l_right_weight : K.lookup f_right_weight = some ⟨oc_right_weight, od_right_weight, .func (PySem.W.fnOf "right_weight" "right_weight" (defArgs s_right_weight) (defBody s_right_weight) (defScope s_right_weight) .none kV_right_weight dc_right_weight pm_right_weight an_right_weight cd_right_weight ct_right_weight), sl_right_weight⟩)
    (c_right_weight : PySem.W.codeIn K cd_right_weight "right_weight" = true)
    (k_right_weight : PySem.W.keepIn K (.ref f_right_weight) = true)
    (a_Part_init : PySem.W.findIn K (.ref Part) "__init__" = some (some (.ref f_Part_init)))
    (i_Part_init : PySem.W.isFn K (.ref f_Part_init) = true)
    (l_Part_init : K.lookup f_Part_init = some ⟨oc_Part_init, od_Part_init, .func (PySem.W.fnOf "__init__" "Part.__init__" (defArgs s_Part_init) (defBody s_Part_init) (defScope s_Part_init) .none kV_Part_init dc_Part_init pm_Part_init an_Part_init cd_Part_init ct_Part_init), sl_Part_init⟩)
    (c_Part_init : PySem.W.codeIn K cd_Part_init "Part.__init__" = true)
    (k_Part_init : PySem.W.keepIn K (.ref f_Part_init) = true)
    (a_made : PySem.W.findIn K (.ref Part) "made" = some (some (.ref f_made)))
    (i_made : PySem.W.isFn K (.ref f_made) = true)
    (l_made : K.lookup f_made = some ⟨oc_made, od_made, .func (PySem.W.fnOf "made" "Part.made" (defArgs s_made) (defBody s_made) (defScope s_made) .none kV_made dc_made pm_made an_made cd_made ct_made), sl_made⟩)
    (c_made : PySem.W.codeIn K cd_made "Part.made" = true)
    (k_made : PySem.W.keepIn K (.ref f_made) = true)
    (a_moment : PySem.W.findIn K (.ref Part) "moment" = some (some (.ref f_moment)))
    (i_moment : PySem.W.isFn K (.ref f_moment) = true)
    (l_moment : K.lookup f_moment = some ⟨oc_moment, od_moment, .func (PySem.W.fnOf "moment" "Part.moment" (defArgs s_moment) (defBody s_moment) (defScope s_moment) .none kV_moment dc_moment pm_moment an_moment cd_moment ct_moment), sl_moment⟩)
    (c_moment : PySem.W.codeIn K cd_moment "Part.moment" = true)
    (k_moment : PySem.W.keepIn K (.ref f_moment) = true)
    (a_last_weight : PySem.W.findIn K (.ref Part) "last_weight" = some (some (.ref f_last_weight)))
    (i_last_weight : PySem.W.isFn K (.ref f_last_weight) = true)
    (l_last_weight : K.lookup f_last_weight = some ⟨oc_last_weight, od_last_weight, .func (PySem.W.fnOf "last_weight" "Part.last_weight" (defArgs s_last_weight) (defBody s_last_weight) (defScope s_last_weight) .none kV_last_weight dc_last_weight pm_last_weight an_last_weight cd_last_weight ct_last_weight), sl_last_weight⟩)
    (c_last_weight : PySem.W.codeIn K cd_last_weight "Part.last_weight" = true)
    (k_last_weight : PySem.W.keepIn K (.ref f_last_weight) = true)
    (a_last_mark : PySem.W.findIn K (.ref Part) "last_mark" = some (some (.ref f_last_mark)))
    (i_last_mark : PySem.W.isFn K (.ref f_last_mark) = true)
    (l_last_mark : K.lookup f_last_mark = some ⟨oc_last_mark, od_last_mark, .func (PySem.W.fnOf "last_mark" "Part.last_mark" (defArgs s_last_mark) (defBody s_last_mark) (defScope s_last_mark) .none kV_last_mark dc_last_mark pm_last_mark an_last_mark cd_last_mark ct_last_mark), sl_last_mark⟩)
    (c_last_mark : PySem.W.codeIn K cd_last_mark "Part.last_mark" = true)
    (k_last_mark : PySem.W.keepIn K (.ref f_last_mark) = true)
    (a_needs : PySem.W.findIn K (.ref Part) "needs" = some (some (.ref f_needs)))
    (i_needs : PySem.W.isFn K (.ref f_needs) = true)
    (l_needs : K.lookup f_needs = some ⟨oc_needs, od_needs, .func (PySem.W.fnOf "needs" "Part.needs" (defArgs s_needs) (defBody s_needs) (defScope s_needs) .none kV_needs dc_needs pm_needs an_needs cd_needs ct_needs), sl_needs⟩)
    (c_needs : PySem.W.codeIn K cd_needs "Part.needs" = true)
    (k_needs : PySem.W.keepIn K (.ref f_needs) = true)
    (a_best : PySem.W.findIn K (.ref Part) "best" = some (some (.ref f_best)))
    (i_best : PySem.W.isFn K (.ref f_best) = true)
    (l_best : K.lookup f_best = some ⟨oc_best, od_best, .func (PySem.W.fnOf "best" "Part.best" (defArgs s_best) (defBody s_best) (defScope s_best) .none kV_best dc_best pm_best an_best cd_best ct_best), sl_best⟩)
    (c_best : PySem.W.codeIn K cd_best "Part.best" = true)
    (k_best : PySem.W.keepIn K (.ref f_best) = true)
    (a_ask_for : PySem.W.findIn K (.ref Part) "ask_for" = some (some (.ref f_ask_for)))
    (i_ask_for : PySem.W.isFn K (.ref f_ask_for) = true)
    (l_ask_for : K.lookup f_ask_for = some ⟨oc_ask_for, od_ask_for, .func (PySem.W.fnOf "ask_for" "Part.ask_for" (defArgs s_ask_for) (defBody s_ask_for) (defScope s_ask_for) .none kV_ask_for dc_ask_for pm_ask_for an_ask_for cd_ask_for ct_ask_for), sl_ask_for⟩)
    (c_ask_for : PySem.W.codeIn K cd_ask_for "Part.ask_for" = true)
    (k_ask_for : PySem.W.keepIn K (.ref f_ask_for) = true)
    (a_change_to : PySem.W.findIn K (.ref Part) "change_to" = some (some (.ref f_change_to)))
    (i_change_to : PySem.W.isFn K (.ref f_change_to) = true)
    (l_change_to : K.lookup f_change_to = some ⟨oc_change_to, od_change_to, .func (PySem.W.fnOf "change_to" "Part.change_to" (defArgs s_change_to) (defBody s_change_to) (defScope s_change_to) .none kV_change_to dc_change_to pm_change_to an_change_to cd_change_to ct_change_to), sl_change_to⟩)
    (c_change_to : PySem.W.codeIn K cd_change_to "Part.change_to" = true)
    (k_change_to : PySem.W.keepIn K (.ref f_change_to) = true)
    (a_take : PySem.W.findIn K (.ref Part) "take" = some (some (.ref f_take)))
    (i_take : PySem.W.isFn K (.ref f_take) = true)
    (l_take : K.lookup f_take = some ⟨oc_take, od_take, .func (PySem.W.fnOf "take" "Part.take" (defArgs s_take) (defBody s_take) (defScope s_take) .none kV_take dc_take pm_take an_take cd_take ct_take), sl_take⟩)
    (c_take : PySem.W.codeIn K cd_take "Part.take" = true)
    (k_take : PySem.W.keepIn K (.ref f_take) = true)
    (a_turn : PySem.W.findIn K (.ref Part) "turn" = some (some (.ref f_turn)))
    (i_turn : PySem.W.isFn K (.ref f_turn) = true)
    (l_turn : K.lookup f_turn = some ⟨oc_turn, od_turn, .func (PySem.W.fnOf "turn" "Part.turn" (defArgs s_turn) (defBody s_turn) (defScope s_turn) .none kV_turn dc_turn pm_turn an_turn cd_turn ct_turn), sl_turn⟩)
    (c_turn : PySem.W.codeIn K cd_turn "Part.turn" = true)
    (k_turn : PySem.W.keepIn K (.ref f_turn) = true)
    (a_Board_init : PySem.W.findIn K (.ref Board) "__init__" = some (some (.ref f_Board_init)))
    (i_Board_init : PySem.W.isFn K (.ref f_Board_init) = true)
    (l_Board_init : K.lookup f_Board_init = some ⟨oc_Board_init, od_Board_init, .func (PySem.W.fnOf "__init__" "Board.__init__" (defArgs s_Board_init) (defBody s_Board_init) (defScope s_Board_init) .none kV_Board_init dc_Board_init pm_Board_init an_Board_init cd_Board_init ct_Board_init), sl_Board_init⟩)
    (c_Board_init : PySem.W.codeIn K cd_Board_init "Board.__init__" = true)
    (k_Board_init : PySem.W.keepIn K (.ref f_Board_init) = true)
    (a_renew : PySem.W.findIn K (.ref Board) "renew" = some (some (.ref f_renew)))
    (i_renew : PySem.W.isFn K (.ref f_renew) = true)
    (l_renew : K.lookup f_renew = some ⟨oc_renew, od_renew, .func (PySem.W.fnOf "renew" "Board.renew" (defArgs s_renew) (defBody s_renew) (defScope s_renew) .none kV_renew dc_renew pm_renew an_renew cd_renew ct_renew), sl_renew⟩)
    (c_renew : PySem.W.codeIn K cd_renew "Board.renew" = true)
    (k_renew : PySem.W.keepIn K (.ref f_renew) = true)
    (a_begun : PySem.W.findIn K (.ref Board) "begun" = some (some (.ref f_begun)))
    (i_begun : PySem.W.isFn K (.ref f_begun) = true)
    (l_begun : K.lookup f_begun = some ⟨oc_begun, od_begun, .func (PySem.W.fnOf "begun" "Board.begun" (defArgs s_begun) (defBody s_begun) (defScope s_begun) .none kV_begun dc_begun pm_begun an_begun cd_begun ct_begun), sl_begun⟩)
    (c_begun : PySem.W.codeIn K cd_begun "Board.begun" = true)
    (k_begun : PySem.W.keepIn K (.ref f_begun) = true)
    (a_running : PySem.W.findIn K (.ref Board) "running" = some (some (.ref f_running)))
    (i_running : PySem.W.isFn K (.ref f_running) = true)
    (l_running : K.lookup f_running = some ⟨oc_running, od_running, .func (PySem.W.fnOf "running" "Board.running" (defArgs s_running) (defBody s_running) (defScope s_running) .none kV_running dc_running pm_running an_running cd_running ct_running), sl_running⟩)
    (c_running : PySem.W.codeIn K cd_running "Board.running" = true)
    (k_running : PySem.W.keepIn K (.ref f_running) = true)
    (a_knows : PySem.W.findIn K (.ref Board) "knows" = some (some (.ref f_knows)))
    (i_knows : PySem.W.isFn K (.ref f_knows) = true)
    (l_knows : K.lookup f_knows = some ⟨oc_knows, od_knows, .func (PySem.W.fnOf "knows" "Board.knows" (defArgs s_knows) (defBody s_knows) (defScope s_knows) .none kV_knows dc_knows pm_knows an_knows cd_knows ct_knows), sl_knows⟩)
    (c_knows : PySem.W.codeIn K cd_knows "Board.knows" = true)
    (k_knows : PySem.W.keepIn K (.ref f_knows) = true)
    (a_part_now : PySem.W.findIn K (.ref Board) "part_now" = some (some (.ref f_part_now)))
    (i_part_now : PySem.W.isFn K (.ref f_part_now) = true)
    (l_part_now : K.lookup f_part_now = some ⟨oc_part_now, od_part_now, .func (PySem.W.fnOf "part_now" "Board.part_now" (defArgs s_part_now) (defBody s_part_now) (defScope s_part_now) .none kV_part_now dc_part_now pm_part_now an_part_now cd_part_now ct_part_now), sl_part_now⟩)
    (c_part_now : PySem.W.codeIn K cd_part_now "Board.part_now" = true)
    (k_part_now : PySem.W.keepIn K (.ref f_part_now) = true)
    (a_tried_last : PySem.W.findIn K (.ref Board) "tried_last" = some (some (.ref f_tried_last)))
    (i_tried_last : PySem.W.isFn K (.ref f_tried_last) = true)
    (l_tried_last : K.lookup f_tried_last = some ⟨oc_tried_last, od_tried_last, .func (PySem.W.fnOf "tried_last" "Board.tried_last" (defArgs s_tried_last) (defBody s_tried_last) (defScope s_tried_last) .none kV_tried_last dc_tried_last pm_tried_last an_tried_last cd_tried_last ct_tried_last), sl_tried_last⟩)
    (c_tried_last : PySem.W.codeIn K cd_tried_last "Board.tried_last" = true)
    (k_tried_last : PySem.W.keepIn K (.ref f_tried_last) = true)
    (a_bar : PySem.W.findIn K (.ref Board) "bar" = some (some (.ref f_bar)))
    (i_bar : PySem.W.isFn K (.ref f_bar) = true)
    (l_bar : K.lookup f_bar = some ⟨oc_bar, od_bar, .func (PySem.W.fnOf "bar" "Board.bar" (defArgs s_bar) (defBody s_bar) (defScope s_bar) .none kV_bar dc_bar pm_bar an_bar cd_bar ct_bar), sl_bar⟩)
    (c_bar : PySem.W.codeIn K cd_bar "Board.bar" = true)
    (k_bar : PySem.W.keepIn K (.ref f_bar) = true)
    (a_note_attempt : PySem.W.findIn K (.ref Board) "note_attempt" = some (some (.ref f_note_attempt)))
    (i_note_attempt : PySem.W.isFn K (.ref f_note_attempt) = true)
    (l_note_attempt : K.lookup f_note_attempt = some ⟨oc_note_attempt, od_note_attempt, .func (PySem.W.fnOf "note_attempt" "Board.note_attempt" (defArgs s_note_attempt) (defBody s_note_attempt) (defScope s_note_attempt) .none kV_note_attempt dc_note_attempt pm_note_attempt an_note_attempt cd_note_attempt ct_note_attempt), sl_note_attempt⟩)
    (c_note_attempt : PySem.W.codeIn K cd_note_attempt "Board.note_attempt" = true)
    (k_note_attempt : PySem.W.keepIn K (.ref f_note_attempt) = true)
    (a_move_on : PySem.W.findIn K (.ref Board) "move_on" = some (some (.ref f_move_on)))
    (i_move_on : PySem.W.isFn K (.ref f_move_on) = true)
    (l_move_on : K.lookup f_move_on = some ⟨oc_move_on, od_move_on, .func (PySem.W.fnOf "move_on" "Board.move_on" (defArgs s_move_on) (defBody s_move_on) (defScope s_move_on) .none kV_move_on dc_move_on pm_move_on an_move_on cd_move_on ct_move_on), sl_move_on⟩)
    (c_move_on : PySem.W.codeIn K cd_move_on "Board.move_on" = true)
    (k_move_on : PySem.W.keepIn K (.ref f_move_on) = true)
    (a_left : PySem.W.nsIn K mainGlobals "left" = some (some (.ref f_left)))
    (l_left : K.lookup f_left = some ⟨oc_left, od_left, .func (PySem.W.fnOf "left" "left" (defArgs s_left) (defBody s_left) (defScope s_left) .none kV_left dc_left pm_left an_left cd_left ct_left), sl_left⟩)
    (c_left : PySem.W.codeIn K cd_left "left" = true)
    (k_left : PySem.W.keepIn K (.ref f_left) = true)
    (a_calling_row : PySem.W.nsIn K mainGlobals "calling_row" = some (some (.ref f_calling_row)))
    (l_calling_row : K.lookup f_calling_row = some ⟨oc_calling_row, od_calling_row, .func (PySem.W.fnOf "calling_row" "calling_row" (defArgs s_calling_row) (defBody s_calling_row) (defScope s_calling_row) .none kV_calling_row dc_calling_row pm_calling_row an_calling_row cd_calling_row ct_calling_row), sl_calling_row⟩)
    (c_calling_row : PySem.W.codeIn K cd_calling_row "calling_row" = true)
    (k_calling_row : PySem.W.keepIn K (.ref f_calling_row) = true)
    (a_calling_order : PySem.W.nsIn K mainGlobals "calling_order" = some (some (.ref f_calling_order)))
    (l_calling_order : K.lookup f_calling_order = some ⟨oc_calling_order, od_calling_order, .func (PySem.W.fnOf "calling_order" "calling_order" (defArgs s_calling_order) (defBody s_calling_order) (defScope s_calling_order) .none kV_calling_order dc_calling_order pm_calling_order an_calling_order cd_calling_order ct_calling_order), sl_calling_order⟩)
    (c_calling_order : PySem.W.codeIn K cd_calling_order "calling_order" = true)
    (k_calling_order : PySem.W.keepIn K (.ref f_calling_order) = true)
    (a_first_called : PySem.W.nsIn K mainGlobals "first_called" = some (some (.ref f_first_called)))
    (l_first_called : K.lookup f_first_called = some ⟨oc_first_called, od_first_called, .func (PySem.W.fnOf "first_called" "first_called" (defArgs s_first_called) (defBody s_first_called) (defScope s_first_called) .none kV_first_called dc_first_called pm_first_called an_first_called cd_first_called ct_first_called), sl_first_called⟩)
    (c_first_called : PySem.W.codeIn K cd_first_called "first_called" = true)
    (k_first_called : PySem.W.keepIn K (.ref f_first_called) = true)
    (a_up : PySem.W.nsIn K mainGlobals "up" = some (some (.ref f_up)))
    (l_up : K.lookup f_up = some ⟨oc_up, od_up, .func (PySem.W.fnOf "up" "up" (defArgs s_up) (defBody s_up) (defScope s_up) .none kV_up dc_up pm_up an_up cd_up ct_up), sl_up⟩)
    (c_up : PySem.W.codeIn K cd_up "up" = true)
    (k_up : PySem.W.keepIn K (.ref f_up) = true)
    (a_order : PySem.W.nsIn K mainGlobals "order" = some (some (.ref f_order)))
    (l_order : K.lookup f_order = some ⟨oc_order, od_order, .func (PySem.W.fnOf "order" "order" (defArgs s_order) (defBody s_order) (defScope s_order) .none kV_order dc_order pm_order an_order cd_order ct_order), sl_order⟩)
    (c_order : PySem.W.codeIn K cd_order "order" = true)
    (k_order : PySem.W.keepIn K (.ref f_order) = true)
    (a_try_one : PySem.W.nsIn K mainGlobals "try_one" = some (some (.ref f_try_one)))
    (l_try_one : K.lookup f_try_one = some ⟨oc_try_one, od_try_one, .func (PySem.W.fnOf "try_one" "try_one" (defArgs s_try_one) (defBody s_try_one) (defScope s_try_one) .none kV_try_one dc_try_one pm_try_one an_try_one cd_try_one ct_try_one), sl_try_one⟩)
    (c_try_one : PySem.W.codeIn K cd_try_one "try_one" = true)
    (k_try_one : PySem.W.keepIn K (.ref f_try_one) = true)
    (a_turn_round : PySem.W.nsIn K mainGlobals "turn_round" = some (some (.ref f_turn_round)))
    (l_turn_round : K.lookup f_turn_round = some ⟨oc_turn_round, od_turn_round, .func (PySem.W.fnOf "turn_round" "turn_round" (defArgs s_turn_round) (defBody s_turn_round) (defScope s_turn_round) .none kV_turn_round dc_turn_round pm_turn_round an_turn_round cd_turn_round ct_turn_round), sl_turn_round⟩)
    (c_turn_round : PySem.W.codeIn K cd_turn_round "turn_round" = true)
    (k_turn_round : PySem.W.keepIn K (.ref f_turn_round) = true)
    (a_last_comes_ahead : PySem.W.nsIn K mainGlobals "last_comes_ahead" = some (some (.ref f_last_comes_ahead)))
    (l_last_comes_ahead : K.lookup f_last_comes_ahead = some ⟨oc_last_comes_ahead, od_last_comes_ahead, .func (PySem.W.fnOf "last_comes_ahead" "last_comes_ahead" (defArgs s_last_comes_ahead) (defBody s_last_comes_ahead) (defScope s_last_comes_ahead) .none kV_last_comes_ahead dc_last_comes_ahead pm_last_comes_ahead an_last_comes_ahead cd_last_comes_ahead ct_last_comes_ahead), sl_last_comes_ahead⟩)
    (c_last_comes_ahead : PySem.W.codeIn K cd_last_comes_ahead "last_comes_ahead" = true)
    (k_last_comes_ahead : PySem.W.keepIn K (.ref f_last_comes_ahead) = true)
    (a_may_ask : PySem.W.nsIn K mainGlobals "may_ask" = some (some (.ref f_may_ask)))
    (l_may_ask : K.lookup f_may_ask = some ⟨oc_may_ask, od_may_ask, .func (PySem.W.fnOf "may_ask" "may_ask" (defArgs s_may_ask) (defBody s_may_ask) (defScope s_may_ask) .none kV_may_ask dc_may_ask pm_may_ask an_may_ask cd_may_ask ct_may_ask), sl_may_ask⟩)
    (c_may_ask : PySem.W.codeIn K cd_may_ask "may_ask" = true)
    (k_may_ask : PySem.W.keepIn K (.ref f_may_ask) = true)
    (a_change : PySem.W.nsIn K mainGlobals "change" = some (some (.ref f_change)))
    (l_change : K.lookup f_change = some ⟨oc_change, od_change, .func (PySem.W.fnOf "change" "change" (defArgs s_change) (defBody s_change) (defScope s_change) .none kV_change dc_change pm_change an_change cd_change ct_change), sl_change⟩)
    (c_change : PySem.W.codeIn K cd_change "change" = true)
    (k_change : PySem.W.keepIn K (.ref f_change) = true)
    (a_right_team : PySem.W.nsIn K mainGlobals "right_team" = some (some (.ref f_right_team)))
    (l_right_team : K.lookup f_right_team = some ⟨oc_right_team, od_right_team, .func (PySem.W.fnOf "right_team" "right_team" (defArgs s_right_team) (defBody s_right_team) (defScope s_right_team) .none kV_right_team dc_right_team pm_right_team an_right_team cd_right_team ct_right_team), sl_right_team⟩)
    (c_right_team : PySem.W.codeIn K cd_right_team "right_team" = true)
    (k_right_team : PySem.W.keepIn K (.ref f_right_team) = true)
    (a_right_teams : PySem.W.nsIn K mainGlobals "right_teams" = some (some (.ref f_right_teams)))
    (l_right_teams : K.lookup f_right_teams = some ⟨oc_right_teams, od_right_teams, .func (PySem.W.fnOf "right_teams" "right_teams" (defArgs s_right_teams) (defBody s_right_teams) (defScope s_right_teams) .none kV_right_teams dc_right_teams pm_right_teams an_right_teams cd_right_teams ct_right_teams), sl_right_teams⟩)
    (c_right_teams : PySem.W.codeIn K cd_right_teams "right_teams" = true)
    (k_right_teams : PySem.W.keepIn K (.ref f_right_teams) = true)
    (a_begin : PySem.W.nsIn K mainGlobals "begin" = some (some (.ref f_begin)))
    (l_begin : K.lookup f_begin = some ⟨oc_begin, od_begin, .func (PySem.W.fnOf "begin" "begin" (defArgs s_begin) (defBody s_begin) (defScope s_begin) .none kV_begin dc_begin pm_begin an_begin cd_begin ct_begin), sl_begin⟩)
    (c_begin : PySem.W.codeIn K cd_begin "begin" = true)
    (k_begin : PySem.W.keepIn K (.ref f_begin) = true)
    (a_ask : PySem.W.nsIn K mainGlobals "ask" = some (some (.ref f_ask)))
    (l_ask : K.lookup f_ask = some ⟨oc_ask, od_ask, .func (PySem.W.fnOf "ask" "ask" (defArgs s_ask) (defBody s_ask) (defScope s_ask) .none kV_ask dc_ask pm_ask an_ask cd_ask ct_ask), sl_ask⟩)
    (c_ask : PySem.W.codeIn K cd_ask "ask" = true)
    (k_ask : PySem.W.keepIn K (.ref f_ask) = true)
    (a_all_asked : PySem.W.nsIn K mainGlobals "all_asked" = some (some (.ref f_all_asked)))
    (l_all_asked : K.lookup f_all_asked = some ⟨oc_all_asked, od_all_asked, .func (PySem.W.fnOf "all_asked" "all_asked" (defArgs s_all_asked) (defBody s_all_asked) (defScope s_all_asked) .none kV_all_asked dc_all_asked pm_all_asked an_all_asked cd_all_asked ct_all_asked), sl_all_asked⟩)
    (c_all_asked : PySem.W.codeIn K cd_all_asked "all_asked" = true)
    (k_all_asked : PySem.W.keepIn K (.ref f_all_asked) = true)
    (a_start : PySem.W.nsIn K mainGlobals "start" = some (some (.ref f_start)))
    (l_start : K.lookup f_start = some ⟨oc_start, od_start, .func (PySem.W.fnOf "start" "start" (defArgs s_start) (defBody s_start) (defScope s_start) .none kV_start dc_start pm_start an_start cd_start ct_start), sl_start⟩)
    (c_start : PySem.W.codeIn K cd_start "start" = true)
    (k_start : PySem.W.keepIn K (.ref f_start) = true)
    (a_card : PySem.W.nsIn K mainGlobals "card" = some (some (.ref f_card)))
    (l_card : K.lookup f_card = some ⟨oc_card, od_card, .func (PySem.W.fnOf "card" "card" (defArgs s_card) (defBody s_card) (defScope s_card) .none kV_card dc_card pm_card an_card cd_card ct_card), sl_card⟩)
    (c_card : PySem.W.codeIn K cd_card "card" = true)
    (k_card : PySem.W.keepIn K (.ref f_card) = true)
    (a_result : PySem.W.nsIn K mainGlobals "result" = some (some (.ref f_result)))
    (l_result : K.lookup f_result = some ⟨oc_result, od_result, .func (PySem.W.fnOf "result" "result" (defArgs s_result) (defBody s_result) (defScope s_result) .none kV_result dc_result pm_result an_result cd_result ct_result), sl_result⟩)
    (c_result : PySem.W.codeIn K cd_result "result" = true)
    (k_result : PySem.W.keepIn K (.ref f_result) = true)
    (a_ranking : PySem.W.nsIn K mainGlobals "ranking" = some (some (.ref f_ranking)))
    (l_ranking : K.lookup f_ranking = some ⟨oc_ranking, od_ranking, .func (PySem.W.fnOf "ranking" "ranking" (defArgs s_ranking) (defBody s_ranking) (defScope s_ranking) .none kV_ranking dc_ranking pm_ranking an_ranking cd_ranking ct_ranking), sl_ranking⟩)
    (c_ranking : PySem.W.codeIn K cd_ranking "ranking" = true)
    (k_ranking : PySem.W.keepIn K (.ref f_ranking) = true)
    (a_ranked : PySem.W.nsIn K mainGlobals "ranked" = some (some (.ref f_ranked)))
    (l_ranked : K.lookup f_ranked = some ⟨oc_ranked, od_ranked, .func (PySem.W.fnOf "ranked" "ranked" (defArgs s_ranked) (defBody s_ranked) (defScope s_ranked) .none kV_ranked dc_ranked pm_ranked an_ranked cd_ranked ct_ranked), sl_ranked⟩)
    (c_ranked : PySem.W.codeIn K cd_ranked "ranked" = true)
    (k_ranked : PySem.W.keepIn K (.ref f_ranked) = true)
    (a_worth : PySem.W.nsIn K mainGlobals "worth" = some (some (.ref f_worth)))
    (l_worth : K.lookup f_worth = some ⟨oc_worth, od_worth, .func (PySem.W.fnOf "worth" "worth" (defArgs s_worth) (defBody s_worth) (defScope s_worth) .none kV_worth dc_worth pm_worth an_worth cd_worth ct_worth), sl_worth⟩)
    (c_worth : PySem.W.codeIn K cd_worth "worth" = true)
    (k_worth : PySem.W.keepIn K (.ref f_worth) = true)
    (a_order_points : PySem.W.nsIn K mainGlobals "order_points" = some (some (.ref f_order_points)))
    (l_order_points : K.lookup f_order_points = some ⟨oc_order_points, od_order_points, .func (PySem.W.fnOf "order_points" "order_points" (defArgs s_order_points) (defBody s_order_points) (defScope s_order_points) .none kV_order_points dc_order_points pm_order_points an_order_points cd_order_points ct_order_points), sl_order_points⟩)
    (c_order_points : PySem.W.codeIn K cd_order_points "order_points" = true)
    (k_order_points : PySem.W.keepIn K (.ref f_order_points) = true)
    (a_points : PySem.W.nsIn K mainGlobals "points" = some (some (.ref f_points)))
    (l_points : K.lookup f_points = some ⟨oc_points, od_points, .func (PySem.W.fnOf "points" "points" (defArgs s_points) (defBody s_points) (defScope s_points) .none kV_points dc_points pm_points an_points cd_points ct_points), sl_points⟩)
    (c_points : PySem.W.codeIn K cd_points "points" = true)
    (k_points : PySem.W.keepIn K (.ref f_points) = true)
    (a_call_length : PySem.W.nsIn K mainGlobals "call_length" = some (some (.ref f_call_length)))
    (l_call_length : K.lookup f_call_length = some ⟨oc_call_length, od_call_length, .func (PySem.W.fnOf "call_length" "call_length" (defArgs s_call_length) (defBody s_call_length) (defScope s_call_length) .none kV_call_length dc_call_length pm_call_length an_call_length cd_call_length ct_call_length), sl_call_length⟩)
    (c_call_length : PySem.W.codeIn K cd_call_length "call_length" = true)
    (k_call_length : PySem.W.keepIn K (.ref f_call_length) = true)
    (a_answer_ahead : PySem.W.nsIn K mainGlobals "answer_ahead" = some (some (.ref f_answer_ahead)))
    (l_answer_ahead : K.lookup f_answer_ahead = some ⟨oc_answer_ahead, od_answer_ahead, .func (PySem.W.fnOf "answer_ahead" "answer_ahead" (defArgs s_answer_ahead) (defBody s_answer_ahead) (defScope s_answer_ahead) .none kV_answer_ahead dc_answer_ahead pm_answer_ahead an_answer_ahead cd_answer_ahead ct_answer_ahead), sl_answer_ahead⟩)
    (c_answer_ahead : PySem.W.codeIn K cd_answer_ahead "answer_ahead" = true)
    (k_answer_ahead : PySem.W.keepIn K (.ref f_answer_ahead) = true)
    (a_answer_behind : PySem.W.nsIn K mainGlobals "answer_behind" = some (some (.ref f_answer_behind)))
    (l_answer_behind : K.lookup f_answer_behind = some ⟨oc_answer_behind, od_answer_behind, .func (PySem.W.fnOf "answer_behind" "answer_behind" (defArgs s_answer_behind) (defBody s_answer_behind) (defScope s_answer_behind) .none kV_answer_behind dc_answer_behind pm_answer_behind an_answer_behind cd_answer_behind ct_answer_behind), sl_answer_behind⟩)
    (c_answer_behind : PySem.W.codeIn K cd_answer_behind "answer_behind" = true)
    (k_answer_behind : PySem.W.keepIn K (.ref f_answer_behind) = true)
    (a_answer : PySem.W.nsIn K mainGlobals "answer" = some (some (.ref f_answer)))
    (l_answer : K.lookup f_answer = some ⟨oc_answer, od_answer, .func (PySem.W.fnOf "answer" "answer" (defArgs s_answer) (defBody s_answer) (defScope s_answer) .none kV_answer dc_answer pm_answer an_answer cd_answer ct_answer), sl_answer⟩)
    (c_answer : PySem.W.codeIn K cd_answer "answer" = true)
    (k_answer : PySem.W.keepIn K (.ref f_answer) = true)
    (a_answers : PySem.W.nsIn K mainGlobals "answers" = some (some (.ref f_answers)))
    (l_answers : K.lookup f_answers = some ⟨oc_answers, od_answers, .func (PySem.W.fnOf "answers" "answers" (defArgs s_answers) (defBody s_answers) (defScope s_answers) .none kV_answers dc_answers pm_answers an_answers cd_answers ct_answers), sl_answers⟩)
    (c_answers : PySem.W.codeIn K cd_answers "answers" = true)
    (k_answers : PySem.W.keepIn K (.ref f_answers) = true)
    (v_ATTEMPTS : PySem.W.nsIn K mainGlobals "ATTEMPTS" = some (some (.int (3) t_ATTEMPTS)))
    (v_CHANGES : PySem.W.nsIn K mainGlobals "CHANGES" = some (some (.int (2) t_CHANGES)))
    (v_LEAST_WEIGHT : PySem.W.nsIn K mainGlobals "LEAST_WEIGHT" = some (some (.int (1) t_LEAST_WEIGHT)))
    (v_MOST_WEIGHT : PySem.W.nsIn K mainGlobals "MOST_WEIGHT" = some (some (.int (500) t_MOST_WEIGHT)))
    (v_GOOD : PySem.W.nsIn K mainGlobals "GOOD" = some (some (.int (1) t_GOOD)))
    (v_PASSED : PySem.W.nsIn K mainGlobals "PASSED" = some (some (.int (2) t_PASSED)))
    (v_NOBODY : PySem.W.nsIn K mainGlobals "NOBODY" = some (some (.int (-1) t_NOBODY)))
    (v_WAITING : PySem.W.nsIn K mainGlobals "WAITING" = some (some (.int (-1) t_WAITING)))
    (v_OVER : PySem.W.nsIn K mainGlobals "OVER" = some (some (.int (2) t_OVER)))
    (v_OWN_SECONDS : PySem.W.nsIn K mainGlobals "OWN_SECONDS" = some (some (.int (120) t_OWN_SECONDS)))
    (v_SECONDS : PySem.W.nsIn K mainGlobals "SECONDS" = some (some (.int (60) t_SECONDS)))
    (v_MOST_LIFTERS : PySem.W.nsIn K mainGlobals "MOST_LIFTERS" = some (some (.int (24) t_MOST_LIFTERS)))
    (v_MOST_TEAM : PySem.W.nsIn K mainGlobals "MOST_TEAM" = some (some (.int (20) t_MOST_TEAM)))
    (v_NOTHING : PySem.W.nsIn K mainGlobals "NOTHING" = some (some (.ref a_NOTHING)))
    (l_NOTHING : K.lookup a_NOTHING = some ⟨.type "tuple", od_NOTHING, .seq #[.int 0 t0_NOTHING, .int 0 t1_NOTHING] m_NOTHING, sl_NOTHING⟩)
    (v_ORDERS : PySem.W.nsIn K mainGlobals "ORDERS" = some (some (.int (3) t_ORDERS)))
    (v_BOTH : PySem.W.nsIn K mainGlobals "BOTH" = some (some (.int (2) t_BOTH)))
    (v_FIRST_WORTH : PySem.W.nsIn K mainGlobals "FIRST_WORTH" = some (some (.int (28) t_FIRST_WORTH)))
    (v_SECOND_WORTH : PySem.W.nsIn K mainGlobals "SECOND_WORTH" = some (some (.int (25) t_SECOND_WORTH)))
    (v_PLACES : PySem.W.nsIn K mainGlobals "PLACES" = some (some (.int (25) t_PLACES)))
    (v_BEGIN : PySem.W.nsIn K mainGlobals "BEGIN" = some (some (.int (1) t_BEGIN)))
    (v_MANY_NUMBERS : PySem.W.nsIn K mainGlobals "MANY_NUMBERS" = some (some (.ref a_MANY_NUMBERS)))
    (l_MANY_NUMBERS : K.lookup a_MANY_NUMBERS = some ⟨.type "tuple", od_MANY_NUMBERS, .seq #[.int 0 t0_MANY_NUMBERS, .int 0 t1_MANY_NUMBERS, .int 3 t2_MANY_NUMBERS, .int 0 t3_MANY_NUMBERS, .int 0 t4_MANY_NUMBERS, .int 0 t5_MANY_NUMBERS, .int 1 t6_MANY_NUMBERS, .int 2 t7_MANY_NUMBERS, .int 0 t8_MANY_NUMBERS, .int 2 t9_MANY_NUMBERS, .int 1 t10_MANY_NUMBERS, .int 1 t11_MANY_NUMBERS] m_MANY_NUMBERS, sl_MANY_NUMBERS⟩)
    (z_enumerate : PySem.W.nsIn K mainGlobals "enumerate" = some none)
    (z_len : PySem.W.nsIn K mainGlobals "len" = some none)
    (z_list : PySem.W.nsIn K mainGlobals "list" = some none)
    (z_max : PySem.W.nsIn K mainGlobals "max" = some none)
    (z_range : PySem.W.nsIn K mainGlobals "range" = some none)
    (z_sorted : PySem.W.nsIn K mainGlobals "sorted" = some none) :
    ∃ A : Adr, A.f_answers = f_answers ∧ A.d_answers = PySem.W.fnOf "answers" "answers" (defArgs s_answers) (defBody s_answers) (defScope s_answers) .none kV_answers dc_answers pm_answers an_answers cd_answers ct_answers ∧ Txt K mg A := by
  refine ⟨⟨Part, Board, f_right_weight, PySem.W.fnOf "right_weight" "right_weight" (defArgs s_right_weight) (defBody s_right_weight) (defScope s_right_weight) .none kV_right_weight dc_right_weight pm_right_weight an_right_weight cd_right_weight ct_right_weight, f_Part_init, PySem.W.fnOf "__init__" "Part.__init__" (defArgs s_Part_init) (defBody s_Part_init) (defScope s_Part_init) .none kV_Part_init dc_Part_init pm_Part_init an_Part_init cd_Part_init ct_Part_init, f_made, PySem.W.fnOf "made" "Part.made" (defArgs s_made) (defBody s_made) (defScope s_made) .none kV_made dc_made pm_made an_made cd_made ct_made, f_moment, PySem.W.fnOf "moment" "Part.moment" (defArgs s_moment) (defBody s_moment) (defScope s_moment) .none kV_moment dc_moment pm_moment an_moment cd_moment ct_moment, f_last_weight, PySem.W.fnOf "last_weight" "Part.last_weight" (defArgs s_last_weight) (defBody s_last_weight) (defScope s_last_weight) .none kV_last_weight dc_last_weight pm_last_weight an_last_weight cd_last_weight ct_last_weight, f_last_mark, PySem.W.fnOf "last_mark" "Part.last_mark" (defArgs s_last_mark) (defBody s_last_mark) (defScope s_last_mark) .none kV_last_mark dc_last_mark pm_last_mark an_last_mark cd_last_mark ct_last_mark, f_needs, PySem.W.fnOf "needs" "Part.needs" (defArgs s_needs) (defBody s_needs) (defScope s_needs) .none kV_needs dc_needs pm_needs an_needs cd_needs ct_needs, f_best, PySem.W.fnOf "best" "Part.best" (defArgs s_best) (defBody s_best) (defScope s_best) .none kV_best dc_best pm_best an_best cd_best ct_best, f_ask_for, PySem.W.fnOf "ask_for" "Part.ask_for" (defArgs s_ask_for) (defBody s_ask_for) (defScope s_ask_for) .none kV_ask_for dc_ask_for pm_ask_for an_ask_for cd_ask_for ct_ask_for, f_change_to, PySem.W.fnOf "change_to" "Part.change_to" (defArgs s_change_to) (defBody s_change_to) (defScope s_change_to) .none kV_change_to dc_change_to pm_change_to an_change_to cd_change_to ct_change_to, f_take, PySem.W.fnOf "take" "Part.take" (defArgs s_take) (defBody s_take) (defScope s_take) .none kV_take dc_take pm_take an_take cd_take ct_take, f_turn, PySem.W.fnOf "turn" "Part.turn" (defArgs s_turn) (defBody s_turn) (defScope s_turn) .none kV_turn dc_turn pm_turn an_turn cd_turn ct_turn, f_Board_init, PySem.W.fnOf "__init__" "Board.__init__" (defArgs s_Board_init) (defBody s_Board_init) (defScope s_Board_init) .none kV_Board_init dc_Board_init pm_Board_init an_Board_init cd_Board_init ct_Board_init, f_renew, PySem.W.fnOf "renew" "Board.renew" (defArgs s_renew) (defBody s_renew) (defScope s_renew) .none kV_renew dc_renew pm_renew an_renew cd_renew ct_renew, f_begun, PySem.W.fnOf "begun" "Board.begun" (defArgs s_begun) (defBody s_begun) (defScope s_begun) .none kV_begun dc_begun pm_begun an_begun cd_begun ct_begun, f_running, PySem.W.fnOf "running" "Board.running" (defArgs s_running) (defBody s_running) (defScope s_running) .none kV_running dc_running pm_running an_running cd_running ct_running, f_knows, PySem.W.fnOf "knows" "Board.knows" (defArgs s_knows) (defBody s_knows) (defScope s_knows) .none kV_knows dc_knows pm_knows an_knows cd_knows ct_knows, f_part_now, PySem.W.fnOf "part_now" "Board.part_now" (defArgs s_part_now) (defBody s_part_now) (defScope s_part_now) .none kV_part_now dc_part_now pm_part_now an_part_now cd_part_now ct_part_now, f_tried_last, PySem.W.fnOf "tried_last" "Board.tried_last" (defArgs s_tried_last) (defBody s_tried_last) (defScope s_tried_last) .none kV_tried_last dc_tried_last pm_tried_last an_tried_last cd_tried_last ct_tried_last, f_bar, PySem.W.fnOf "bar" "Board.bar" (defArgs s_bar) (defBody s_bar) (defScope s_bar) .none kV_bar dc_bar pm_bar an_bar cd_bar ct_bar, f_note_attempt, PySem.W.fnOf "note_attempt" "Board.note_attempt" (defArgs s_note_attempt) (defBody s_note_attempt) (defScope s_note_attempt) .none kV_note_attempt dc_note_attempt pm_note_attempt an_note_attempt cd_note_attempt ct_note_attempt, f_move_on, PySem.W.fnOf "move_on" "Board.move_on" (defArgs s_move_on) (defBody s_move_on) (defScope s_move_on) .none kV_move_on dc_move_on pm_move_on an_move_on cd_move_on ct_move_on, f_left, PySem.W.fnOf "left" "left" (defArgs s_left) (defBody s_left) (defScope s_left) .none kV_left dc_left pm_left an_left cd_left ct_left, f_calling_row, PySem.W.fnOf "calling_row" "calling_row" (defArgs s_calling_row) (defBody s_calling_row) (defScope s_calling_row) .none kV_calling_row dc_calling_row pm_calling_row an_calling_row cd_calling_row ct_calling_row, f_calling_order, PySem.W.fnOf "calling_order" "calling_order" (defArgs s_calling_order) (defBody s_calling_order) (defScope s_calling_order) .none kV_calling_order dc_calling_order pm_calling_order an_calling_order cd_calling_order ct_calling_order, f_first_called, PySem.W.fnOf "first_called" "first_called" (defArgs s_first_called) (defBody s_first_called) (defScope s_first_called) .none kV_first_called dc_first_called pm_first_called an_first_called cd_first_called ct_first_called, f_up, PySem.W.fnOf "up" "up" (defArgs s_up) (defBody s_up) (defScope s_up) .none kV_up dc_up pm_up an_up cd_up ct_up, f_order, PySem.W.fnOf "order" "order" (defArgs s_order) (defBody s_order) (defScope s_order) .none kV_order dc_order pm_order an_order cd_order ct_order, f_try_one, PySem.W.fnOf "try_one" "try_one" (defArgs s_try_one) (defBody s_try_one) (defScope s_try_one) .none kV_try_one dc_try_one pm_try_one an_try_one cd_try_one ct_try_one, f_turn_round, PySem.W.fnOf "turn_round" "turn_round" (defArgs s_turn_round) (defBody s_turn_round) (defScope s_turn_round) .none kV_turn_round dc_turn_round pm_turn_round an_turn_round cd_turn_round ct_turn_round, f_last_comes_ahead, PySem.W.fnOf "last_comes_ahead" "last_comes_ahead" (defArgs s_last_comes_ahead) (defBody s_last_comes_ahead) (defScope s_last_comes_ahead) .none kV_last_comes_ahead dc_last_comes_ahead pm_last_comes_ahead an_last_comes_ahead cd_last_comes_ahead ct_last_comes_ahead, f_may_ask, PySem.W.fnOf "may_ask" "may_ask" (defArgs s_may_ask) (defBody s_may_ask) (defScope s_may_ask) .none kV_may_ask dc_may_ask pm_may_ask an_may_ask cd_may_ask ct_may_ask, f_change, PySem.W.fnOf "change" "change" (defArgs s_change) (defBody s_change) (defScope s_change) .none kV_change dc_change pm_change an_change cd_change ct_change, f_right_team, PySem.W.fnOf "right_team" "right_team" (defArgs s_right_team) (defBody s_right_team) (defScope s_right_team) .none kV_right_team dc_right_team pm_right_team an_right_team cd_right_team ct_right_team, f_right_teams, PySem.W.fnOf "right_teams" "right_teams" (defArgs s_right_teams) (defBody s_right_teams) (defScope s_right_teams) .none kV_right_teams dc_right_teams pm_right_teams an_right_teams cd_right_teams ct_right_teams, f_begin, PySem.W.fnOf "begin" "begin" (defArgs s_begin) (defBody s_begin) (defScope s_begin) .none kV_begin dc_begin pm_begin an_begin cd_begin ct_begin, f_ask, PySem.W.fnOf "ask" "ask" (defArgs s_ask) (defBody s_ask) (defScope s_ask) .none kV_ask dc_ask pm_ask an_ask cd_ask ct_ask, f_all_asked, PySem.W.fnOf "all_asked" "all_asked" (defArgs s_all_asked) (defBody s_all_asked) (defScope s_all_asked) .none kV_all_asked dc_all_asked pm_all_asked an_all_asked cd_all_asked ct_all_asked, f_start, PySem.W.fnOf "start" "start" (defArgs s_start) (defBody s_start) (defScope s_start) .none kV_start dc_start pm_start an_start cd_start ct_start, f_card, PySem.W.fnOf "card" "card" (defArgs s_card) (defBody s_card) (defScope s_card) .none kV_card dc_card pm_card an_card cd_card ct_card, f_result, PySem.W.fnOf "result" "result" (defArgs s_result) (defBody s_result) (defScope s_result) .none kV_result dc_result pm_result an_result cd_result ct_result, f_ranking, PySem.W.fnOf "ranking" "ranking" (defArgs s_ranking) (defBody s_ranking) (defScope s_ranking) .none kV_ranking dc_ranking pm_ranking an_ranking cd_ranking ct_ranking, f_ranked, PySem.W.fnOf "ranked" "ranked" (defArgs s_ranked) (defBody s_ranked) (defScope s_ranked) .none kV_ranked dc_ranked pm_ranked an_ranked cd_ranked ct_ranked, f_worth, PySem.W.fnOf "worth" "worth" (defArgs s_worth) (defBody s_worth) (defScope s_worth) .none kV_worth dc_worth pm_worth an_worth cd_worth ct_worth, f_order_points, PySem.W.fnOf "order_points" "order_points" (defArgs s_order_points) (defBody s_order_points) (defScope s_order_points) .none kV_order_points dc_order_points pm_order_points an_order_points cd_order_points ct_order_points, f_points, PySem.W.fnOf "points" "points" (defArgs s_points) (defBody s_points) (defScope s_points) .none kV_points dc_points pm_points an_points cd_points ct_points, f_call_length, PySem.W.fnOf "call_length" "call_length" (defArgs s_call_length) (defBody s_call_length) (defScope s_call_length) .none kV_call_length dc_call_length pm_call_length an_call_length cd_call_length ct_call_length, f_answer_ahead, PySem.W.fnOf "answer_ahead" "answer_ahead" (defArgs s_answer_ahead) (defBody s_answer_ahead) (defScope s_answer_ahead) .none kV_answer_ahead dc_answer_ahead pm_answer_ahead an_answer_ahead cd_answer_ahead ct_answer_ahead, f_answer_behind, PySem.W.fnOf "answer_behind" "answer_behind" (defArgs s_answer_behind) (defBody s_answer_behind) (defScope s_answer_behind) .none kV_answer_behind dc_answer_behind pm_answer_behind an_answer_behind cd_answer_behind ct_answer_behind, f_answer, PySem.W.fnOf "answer" "answer" (defArgs s_answer) (defBody s_answer) (defScope s_answer) .none kV_answer dc_answer pm_answer an_answer cd_answer ct_answer, f_answers, PySem.W.fnOf "answers" "answers" (defArgs s_answers) (defBody s_answers) (defScope s_answers) .none kV_answers dc_answers pm_answers an_answers cd_answers ct_answers⟩, rfl, rfl, ?_⟩
  exact {
    cl_Part := ⟨pgPart, hdPart, poPart, saPart⟩
    g_Part := PySem.W.mg_of X G aPart
    mk_Part := ⟨mkPart, a_Part_init, i_Part_init, kcPart⟩
    n_asks := n_asks
    n_changed := n_changed
    n_weights := n_weights
    n_marks := n_marks
    n_moments := n_moments
    cl_Board := ⟨pgBoard, hdBoard, poBoard, saBoard⟩
    g_Board := PySem.W.mg_of X G aBoard
    mk_Board := ⟨mkBoard, a_Board_init, i_Board_init, kcBoard⟩
    n_teams := n_teams
    n_parts := n_parts
    n_lift := n_lift
    n_tries := n_tries
    n_newest_lifter := n_newest_lifter
    n_newest_lift := n_newest_lift
    F_right_weight := fun_mk (st := s_right_weight) l_right_weight c_right_weight k_right_weight
    g_right_weight := PySem.W.mg_of X G a_right_weight
    F_Part_init := fun_mk (st := s_Part_init) l_Part_init c_Part_init k_Part_init
    F_made := fun_mk (st := s_made) l_made c_made k_made
    m_made := ⟨a_made, i_made, k_made⟩
    F_moment := fun_mk (st := s_moment) l_moment c_moment k_moment
    m_moment := ⟨a_moment, i_moment, k_moment⟩
    F_last_weight := fun_mk (st := s_last_weight) l_last_weight c_last_weight k_last_weight
    m_last_weight := ⟨a_last_weight, i_last_weight, k_last_weight⟩
    F_last_mark := fun_mk (st := s_last_mark) l_last_mark c_last_mark k_last_mark
    m_last_mark := ⟨a_last_mark, i_last_mark, k_last_mark⟩
    F_needs := fun_mk (st := s_needs) l_needs c_needs k_needs
    m_needs := ⟨a_needs, i_needs, k_needs⟩
    F_best := fun_mk (st := s_best) l_best c_best k_best
    m_best := ⟨a_best, i_best, k_best⟩
    F_ask_for := fun_mk (st := s_ask_for) l_ask_for c_ask_for k_ask_for
    m_ask_for := ⟨a_ask_for, i_ask_for, k_ask_for⟩
    F_change_to := fun_mk (st := s_change_to) l_change_to c_change_to k_change_to
    m_change_to := ⟨a_change_to, i_change_to, k_change_to⟩
    F_take := fun_mk (st := s_take) l_take c_take k_take
    m_take := ⟨a_take, i_take, k_take⟩
    F_turn := fun_mk (st := s_turn) l_turn c_turn k_turn
    m_turn := ⟨a_turn, i_turn, k_turn⟩
    F_Board_init := fun_mk (st := s_Board_init) l_Board_init c_Board_init k_Board_init
    F_renew := fun_mk (st := s_renew) l_renew c_renew k_renew
    m_renew := ⟨a_renew, i_renew, k_renew⟩
    F_begun := fun_mk (st := s_begun) l_begun c_begun k_begun
    m_begun := ⟨a_begun, i_begun, k_begun⟩
    F_running := fun_mk (st := s_running) l_running c_running k_running
    m_running := ⟨a_running, i_running, k_running⟩
    F_knows := fun_mk (st := s_knows) l_knows c_knows k_knows
    m_knows := ⟨a_knows, i_knows, k_knows⟩
    F_part_now := fun_mk (st := s_part_now) l_part_now c_part_now k_part_now
    m_part_now := ⟨a_part_now, i_part_now, k_part_now⟩
    F_tried_last := fun_mk (st := s_tried_last) l_tried_last c_tried_last k_tried_last
    m_tried_last := ⟨a_tried_last, i_tried_last, k_tried_last⟩
    F_bar := fun_mk (st := s_bar) l_bar c_bar k_bar
    m_bar := ⟨a_bar, i_bar, k_bar⟩
    F_note_attempt := fun_mk (st := s_note_attempt) l_note_attempt c_note_attempt k_note_attempt
    m_note_attempt := ⟨a_note_attempt, i_note_attempt, k_note_attempt⟩
    F_move_on := fun_mk (st := s_move_on) l_move_on c_move_on k_move_on
    m_move_on := ⟨a_move_on, i_move_on, k_move_on⟩
    F_left := fun_mk (st := s_left) l_left c_left k_left
    g_left := PySem.W.mg_of X G a_left
    F_calling_row := fun_mk (st := s_calling_row) l_calling_row c_calling_row k_calling_row
    g_calling_row := PySem.W.mg_of X G a_calling_row
    F_calling_order := fun_mk (st := s_calling_order) l_calling_order c_calling_order k_calling_order
    g_calling_order := PySem.W.mg_of X G a_calling_order
    F_first_called := fun_mk (st := s_first_called) l_first_called c_first_called k_first_called
    g_first_called := PySem.W.mg_of X G a_first_called
    F_up := fun_mk (st := s_up) l_up c_up k_up
    g_up := PySem.W.mg_of X G a_up
    F_order := fun_mk (st := s_order) l_order c_order k_order
    g_order := PySem.W.mg_of X G a_order
    F_try_one := fun_mk (st := s_try_one) l_try_one c_try_one k_try_one
    g_try_one := PySem.W.mg_of X G a_try_one
    F_turn_round := fun_mk (st := s_turn_round) l_turn_round c_turn_round k_turn_round
    g_turn_round := PySem.W.mg_of X G a_turn_round
    F_last_comes_ahead := fun_mk (st := s_last_comes_ahead) l_last_comes_ahead c_last_comes_ahead k_last_comes_ahead
    g_last_comes_ahead := PySem.W.mg_of X G a_last_comes_ahead
    F_may_ask := fun_mk (st := s_may_ask) l_may_ask c_may_ask k_may_ask
    g_may_ask := PySem.W.mg_of X G a_may_ask
    F_change := fun_mk (st := s_change) l_change c_change k_change
    g_change := PySem.W.mg_of X G a_change
    F_right_team := fun_mk (st := s_right_team) l_right_team c_right_team k_right_team
    g_right_team := PySem.W.mg_of X G a_right_team
    F_right_teams := fun_mk (st := s_right_teams) l_right_teams c_right_teams k_right_teams
    g_right_teams := PySem.W.mg_of X G a_right_teams
    F_begin := fun_mk (st := s_begin) l_begin c_begin k_begin
    g_begin := PySem.W.mg_of X G a_begin
    F_ask := fun_mk (st := s_ask) l_ask c_ask k_ask
    g_ask := PySem.W.mg_of X G a_ask
    F_all_asked := fun_mk (st := s_all_asked) l_all_asked c_all_asked k_all_asked
    g_all_asked := PySem.W.mg_of X G a_all_asked
    F_start := fun_mk (st := s_start) l_start c_start k_start
    g_start := PySem.W.mg_of X G a_start
    F_card := fun_mk (st := s_card) l_card c_card k_card
    g_card := PySem.W.mg_of X G a_card
    F_result := fun_mk (st := s_result) l_result c_result k_result
    g_result := PySem.W.mg_of X G a_result
    F_ranking := fun_mk (st := s_ranking) l_ranking c_ranking k_ranking
    g_ranking := PySem.W.mg_of X G a_ranking
    F_ranked := fun_mk (st := s_ranked) l_ranked c_ranked k_ranked
    g_ranked := PySem.W.mg_of X G a_ranked
    F_worth := fun_mk (st := s_worth) l_worth c_worth k_worth
    g_worth := PySem.W.mg_of X G a_worth
    F_order_points := fun_mk (st := s_order_points) l_order_points c_order_points k_order_points
    g_order_points := PySem.W.mg_of X G a_order_points
    F_points := fun_mk (st := s_points) l_points c_points k_points
    g_points := PySem.W.mg_of X G a_points
    F_call_length := fun_mk (st := s_call_length) l_call_length c_call_length k_call_length
    g_call_length := PySem.W.mg_of X G a_call_length
    F_answer_ahead := fun_mk (st := s_answer_ahead) l_answer_ahead c_answer_ahead k_answer_ahead
    g_answer_ahead := PySem.W.mg_of X G a_answer_ahead
    F_answer_behind := fun_mk (st := s_answer_behind) l_answer_behind c_answer_behind k_answer_behind
    g_answer_behind := PySem.W.mg_of X G a_answer_behind
    F_answer := fun_mk (st := s_answer) l_answer c_answer k_answer
    g_answer := PySem.W.mg_of X G a_answer
    F_answers := fun_mk (st := s_answers) l_answers c_answers k_answers
    g_answers := PySem.W.mg_of X G a_answers
    c_ATTEMPTS := ⟨_, PySem.W.mg_of X G v_ATTEMPTS⟩
    c_CHANGES := ⟨_, PySem.W.mg_of X G v_CHANGES⟩
    c_LEAST_WEIGHT := ⟨_, PySem.W.mg_of X G v_LEAST_WEIGHT⟩
    c_MOST_WEIGHT := ⟨_, PySem.W.mg_of X G v_MOST_WEIGHT⟩
    c_GOOD := ⟨_, PySem.W.mg_of X G v_GOOD⟩
    c_PASSED := ⟨_, PySem.W.mg_of X G v_PASSED⟩
    c_NOBODY := ⟨_, PySem.W.mg_of X G v_NOBODY⟩
    c_WAITING := ⟨_, PySem.W.mg_of X G v_WAITING⟩
    c_OVER := ⟨_, PySem.W.mg_of X G v_OVER⟩
    c_OWN_SECONDS := ⟨_, PySem.W.mg_of X G v_OWN_SECONDS⟩
    c_SECONDS := ⟨_, PySem.W.mg_of X G v_SECONDS⟩
    c_MOST_LIFTERS := ⟨_, PySem.W.mg_of X G v_MOST_LIFTERS⟩
    c_MOST_TEAM := ⟨_, PySem.W.mg_of X G v_MOST_TEAM⟩
    c_NOTHING := ⟨_, PySem.W.mg_of X G v_NOTHING, fun H => .inr ⟨_, _, _, l_NOTHING, rfl, rfl, (by show 2 ≤ sizeLine; decide), .cons ⟨_, rfl⟩ (.cons ⟨_, rfl⟩ (.nil))⟩⟩
    c_ORDERS := ⟨_, PySem.W.mg_of X G v_ORDERS⟩
    c_BOTH := ⟨_, PySem.W.mg_of X G v_BOTH⟩
    c_FIRST_WORTH := ⟨_, PySem.W.mg_of X G v_FIRST_WORTH⟩
    c_SECOND_WORTH := ⟨_, PySem.W.mg_of X G v_SECOND_WORTH⟩
    c_PLACES := ⟨_, PySem.W.mg_of X G v_PLACES⟩
    c_BEGIN := ⟨_, PySem.W.mg_of X G v_BEGIN⟩
    c_MANY_NUMBERS := ⟨_, PySem.W.mg_of X G v_MANY_NUMBERS, fun H => .inr ⟨_, _, _, l_MANY_NUMBERS, rfl, rfl, (by show 12 ≤ sizeLine; decide), .cons ⟨_, rfl⟩ (.cons ⟨_, rfl⟩ (.cons ⟨_, rfl⟩ (.cons ⟨_, rfl⟩ (.cons ⟨_, rfl⟩ (.cons ⟨_, rfl⟩ (.cons ⟨_, rfl⟩ (.cons ⟨_, rfl⟩ (.cons ⟨_, rfl⟩ (.cons ⟨_, rfl⟩ (.cons ⟨_, rfl⟩ (.cons ⟨_, rfl⟩ (.nil))))))))))))⟩⟩
    b_enumerate := PySem.W.mg_none_of X G z_enumerate
    b_len := PySem.W.mg_none_of X G z_len
    b_list := PySem.W.mg_none_of X G z_list
    b_max := PySem.W.mg_none_of X G z_max
    b_range := PySem.W.mg_none_of X G z_range
    b_sorted := PySem.W.mg_none_of X G z_sorted
  }
end BC
/-! BcVal -/
/-! What the readings of expressions come to: values, tests, arguments. -/
namespace BC
open PySem PySem.Spec PyProof.Rows L2

section
variable {K : PySem.W.Frag} {σ : L2.St} {H : Hp} {ta tb tc te : TE} {v x y : V} {a b c : Int} {p : Addr} {xs : List V} {t u : TT} {D : Ends}

/-- arguments that come to vs and leave the heap -/
def ValA (t : TA) (σ : L2.St) (H : Hp) (vs : List V) : Prop := ∀ Q : List V → Hp → Prop, Q vs H → t σ H Q
theorem a0 : ValA tNil σ H [] := fun _ q => q
theorem a1 {t : TA} {vs : List V} (h : Val te σ H v) (hr : ValA t σ H vs) : ValA (tCons te t) σ H (v :: vs) := fun Q q => h _ (hr _ q)

theorem v_var {i : Nat} (h : σ[i]? = some (some v)) : Val (tVar i) σ H v := fun _ q => ⟨v, h, q⟩
theorem v_c : Val (tC v) σ H v := fun _ q => q
theorem v_is {w : V} (h : Val te σ H v) (e : v = w) : Val te σ H w := e ▸ h
theorem v_add (h : Val ta σ H (.int a)) (k : Val tb σ H (.int b)) : Val (tOp (rI0 fun i j => .int (i + j)) ta tb) σ H (.int (a + b)) := fun _ q => h _ (k _ ⟨a, b, rfl, rfl, q⟩)
theorem v_sub (h : Val ta σ H (.int a)) (k : Val tb σ H (.int b)) : Val (tOp (rI0 fun i j => .int (i - j)) ta tb) σ H (.int (a - b)) := fun _ q => h _ (k _ ⟨a, b, rfl, rfl, q⟩)
theorem v_neg (h : Val ta σ H (.int a)) : Val (tUn (rU fun i => .int (-i)) ta) σ H (.int (-a)) := fun _ q => h _ ⟨a, rfl, q⟩
theorem v_lt (h : Val ta σ H (.int a)) (k : Val tb σ H (.int b)) : Val (tOp (rI0 fun i j => .bl (decide (i < j))) ta tb) σ H (.bl (decide (a < b))) := fun _ q => h _ (k _ ⟨a, b, rfl, rfl, q⟩)
theorem v_le (h : Val ta σ H (.int a)) (k : Val tb σ H (.int b)) : Val (tOp (rI0 fun i j => .bl (decide (i ≤ j))) ta tb) σ H (.bl (decide (a ≤ b))) := fun _ q => h _ (k _ ⟨a, b, rfl, rfl, q⟩)
theorem v_gt (h : Val ta σ H (.int a)) (k : Val tb σ H (.int b)) : Val (tOp (rI0 fun i j => .bl (decide (j < i))) ta tb) σ H (.bl (decide (b < a))) := fun _ q => h _ (k _ ⟨a, b, rfl, rfl, q⟩)
theorem v_ge (h : Val ta σ H (.int a)) (k : Val tb σ H (.int b)) : Val (tOp (rI0 fun i j => .bl (decide (j ≤ i))) ta tb) σ H (.bl (decide (b ≤ a))) := fun _ q => h _ (k _ ⟨a, b, rfl, rfl, q⟩)
theorem int_iff : (V.int a = V.int b) ↔ a = b := ⟨fun e => by injection e, fun e => by rw [e]⟩
theorem v_eq (h : Val ta σ H (.int a)) (k : Val tb σ H (.int b)) : Val (tOp rEq ta tb) σ H (.bl (decide (a = b))) := fun _ q =>
  h _ (k _ ⟨rfl, by rw [decide_eq_decide.mpr int_iff]; exact q⟩)
theorem v_ne (h : Val ta σ H (.int a)) (k : Val tb σ H (.int b)) : Val (tOp rNe ta tb) σ H (.bl (!decide (a = b))) := fun _ q =>
  h _ (k _ ⟨rfl, by rw [decide_eq_decide.mpr int_iff]; exact q⟩)
theorem v_and {k l : Bool} (h : Val ta σ H (.bl k)) (g : Val tb σ H (.bl l)) : Val (tAndV ta tb) σ H (.bl (k && l)) := fun Q q => h _ ⟨k, rfl, by
  cases k with
  | true => exact iteT (g _ q)
  | false => exact iteF q⟩
theorem v_ix {i : Int} (h : Val ta σ H (.ref p)) (k : Val tb σ H (.int i)) (hs : SqL K H p xs) (e : atI xs i = some v) : Val (tOp (rIxL K) ta tb) σ H v := fun _ q => h _ (k _ ⟨p, xs, i, v, rfl, rfl, hs, e, q⟩)
theorem v_ixT {i : Int} (h : Val ta σ H (.ref p)) (k : Val tb σ H (.int i)) (hs : SqT K H p xs) (e : atI xs i = some v) : Val (tOp (rIxT K) ta tb) σ H v := fun _ q => h _ (k _ ⟨p, xs, i, v, rfl, rfl, hs, e, q⟩)
theorem v_len (h : Val te σ H (.ref p)) (hs : SqL K H p xs) : Val (tCB (fun zs H Q => ∃ p ys, zs = [.ref p] ∧ (SqL K H p ys ∨ SqT K H p ys) ∧ Q (.int ys.length) H) (tCons te tNil)) σ H (.int xs.length) := fun _ q =>
  h _ ⟨p, xs, rfl, .inl hs, q⟩
theorem v_max (h : Val ta σ H (.int a)) (k : Val tb σ H (.int b)) : Val (tCB (fun zs H Q => ∃ i j, zs = [.int i, .int j] ∧ Q (.int (if j > i then j else i)) H) (tCons ta (tCons tb tNil))) σ H (.int (if b > a then b else a)) := fun _ q =>
  h _ (k _ ⟨a, b, rfl, q⟩)
/-- a place that is a number from 0 on -/
theorem at_z {α : Type} {ys : List α} {i : Int} {j : Nat} {z : α} (e : i = (j : Int)) (h : ys[j]? = some z) : atI ys i = some z := by
  rw [e]; exact atI_nat h

/-! ### tests -/
theorem t_v {k : Bool} (h : Val te σ H (.bl k)) : Ans (tTest te) σ H k := fun _ q => h _ ⟨k, rfl, q⟩
theorem t_b {k : Bool} (h : Val te σ H (.bl k)) : Ans (tB te) σ H k := fun _ q => h _ ⟨k, rfl, q⟩
theorem t_not {k : Bool} (h : Ans t σ H k) : Ans (tNot t) σ H (!k) := fun _ q => h _ q
theorem t_or {k l : Bool} (h : Ans t σ H k) (g : Ans u σ H l) : Ans (tOr t u) σ H (k || l) := fun Q q => h _ (by
  cases k with
  | true => exact iteT q
  | false => exact iteF (g _ q))
theorem t_and {k l : Bool} (h : Ans t σ H k) (g : Ans u σ H l) : Ans (tAnd t u) σ H (k && l) := fun Q q => h _ (by
  cases k with
  | true => exact iteT (g _ q)
  | false => exact iteF q)
theorem t_is {k l : Bool} (h : Ans t σ H k) (e : k = l) : Ans t σ H l := e ▸ h
/-- an if, by what its test comes to -/
theorem s_if {k : Bool} {t1 t2 : TS} (h : Ans t σ H k) (q1 : k = true → t1 D σ H) (q2 : k = false → t2 D σ H) : tIfS t t1 t2 D σ H := h _ (by
  cases k with
  | true => exact iteT (q1 rfl)
  | false => exact iteF (q2 rfl))
theorem s_ret (h : Val te σ H v) (q : D.rt v H) : tRet te D σ H := h _ q
/-- return [e, ..]: a new list -/
theorem s_retL {t : TA} {vs : List V} (h : ValA t σ H vs) (hz : vs.length ≤ 100) (q : ∀ p, H p = none → D.rt (.ref p) (upd H p (.lst vs))) : tRet (tLst t) D σ H := h _ ⟨Nat.le_trans hz (by decide), q⟩
theorem s_retT {t : TA} {vs : List V} (h : ValA t σ H vs) (hz : vs.length ≤ 100) (q : ∀ p, H p = none → D.rt (.ref p) (upd H p (.tup vs))) : tRet (tTup t) D σ H := h _ ⟨Nat.le_trans hz (by decide), q⟩
theorem s_setL {t : TA} {vs : List V} {i : Nat} (h : ValA t σ H vs) (hz : vs.length ≤ 100) (q : ∀ p, H p = none → D.nx (σ.set i (some (.ref p))) (upd H p (.lst vs))) : tAsg (tLst t) (gName i) D σ H := h _ ⟨Nat.le_trans hz (by decide), q⟩
theorem s_setT {t : TA} {vs : List V} {i : Nat} (h : ValA t σ H vs) (hz : vs.length ≤ 100) (q : ∀ p, H p = none → D.nx (σ.set i (some (.ref p))) (upd H p (.tup vs))) : tAsg (tTup t) (gName i) D σ H := h _ ⟨Nat.le_trans hz (by decide), q⟩
theorem s_set {i : Nat} (h : Val te σ H v) (q : D.nx (σ.set i (some v)) H) : tAsg te (gName i) D σ H := h _ q
theorem s_aug {i : Nat} {f : Int → Int → Int} (hx : σ[i]? = some (some (.int a))) (h : Val te σ H (.int b)) (q : D.nx (σ.set i (some (.int (f a b)))) H) : tAug i te (ipI f) D σ H := ⟨_, hx, h _ ⟨a, b, rfl, rfl, q⟩⟩
/-- xs.append(e) -/
theorem s_app {t : TE} (h : Val t σ H (.ref p)) (hs : H p = some (.lst xs)) (k : Val te σ H v) (hz : xs.length < 100000) (q : D.nx σ (upd H p (.lst (xs ++ [v])))) :
    tDrop (tBM K "list" rAppend t (tCons te tNil)) D σ H := h _ ⟨.inl ⟨rfl, _, SqL.of hs⟩, k _ ⟨p, xs, v, rfl, rfl, hs, Nat.lt_of_lt_of_le hz (by decide), q⟩⟩
end

theorem same_new {H : Hp} {p : Addr} {o : HO} (h : H p = none) : Same H (upd H p o) := fun b u e => by
  rw [upd_ne (ne_of_none e h)]; exact e
theorem Same.sqT {K : PySem.W.Frag} {H H' : Hp} {a : Addr} {xs : List V} (e : Same H H') (h : SqT K H a xs) : SqT K H' a xs := by
  rcases h with (h | ⟨o, h⟩) | h
  · exact .inl (.inl (e _ _ h))
  · exact .inl (.inr ⟨o, e _ _ h⟩)
  · exact .inr h

/-! ### fields by name -/
theorem lk_here {k : Str} {v : V} {r : List (Str × V)} : List.lookup k ((k, v) :: r) = some v := by
  have e : (k == k) = true := beq_self_eq_true k
  simp only [List.lookup, e]
theorem lk_past {k g : Str} {v : V} {r : List (Str × V)} (h : (k == g) = false) : List.lookup k ((g, v) :: r) = List.lookup k r := by
  simp only [List.lookup, h]
theorem put_here {f : Str} {v x : V} {r : List (Str × V)} : putF f v ((f, x) :: r) = (f, v) :: r := if_pos rfl
theorem put_past {f g : Str} {v x : V} {r : List (Str × V)} (h : ¬ g = f) : putF f v ((g, x) :: r) = (g, x) :: putF f v r := if_neg h
local macro_rules | `(tactic| walk_at "lk") => `(tactic| (repeat (first | exact lk_here | exact rfl | refine (lk_past (by decide +kernel)).trans ?_)))
local macro_rules | `(tactic| walk_at "pt") => `(tactic| (repeat (first | exact put_here | exact rfl | refine (put_past (by decide +kernel)).trans (congrArg _ ?_))))

/-! ### a part: where it stands, what it holds -/
structure PL where
  p : Addr
  w : Addr
  k : Addr
  t : Addr
def PL.has (l : PL) (a : Addr) : Prop := a = l.p ∨ a = l.w ∨ a = l.k ∨ a = l.t
structure PL.ok (l : PL) : Prop where
  wk : l.w ≠ l.k
  wt : l.w ≠ l.t
  kt : l.k ≠ l.t
def pF (x : Kg59.Lift) (l : PL) : List (Str × V) := [("asks", .int x.next), ("changed", .int x.changes), ("weights", .ref l.w), ("marks", .ref l.k), ("moments", .ref l.t)]
def wts (x : Kg59.Lift) : List V := x.tries.map fun t => V.int t.weight
def mks (x : Kg59.Lift) : List V := x.tries.map fun t => V.int t.good
def mms (x : Kg59.Lift) : List V := x.tries.map fun t => V.int ((t.at_ : Int) + 1)
structure PartAt (C : Addr) (H : Hp) (l : PL) (x : Kg59.Lift) : Prop where
  obj : ∃ dx, H l.p = some (.ins C dx (pF x l))
  w : H l.w = some (.lst (wts x))
  k : H l.k = some (.lst (mks x))
  t : H l.t = some (.lst (mms x))
section
variable {x : Kg59.Lift} {l : PL}
theorem pF_asks : (pF x l).lookup ("asks" : Str) = some (.int x.next) := by unfold pF; walk_at "lk"
theorem pF_changed : (pF x l).lookup ("changed" : Str) = some (.int x.changes) := by unfold pF; walk_at "lk"
theorem pF_weights : (pF x l).lookup ("weights" : Str) = some (.ref l.w) := by unfold pF; walk_at "lk"
theorem pF_marks : (pF x l).lookup ("marks" : Str) = some (.ref l.k) := by unfold pF; walk_at "lk"
theorem pF_moments : (pF x l).lookup ("moments" : Str) = some (.ref l.t) := by unfold pF; walk_at "lk"
theorem pF_made : (pF x l).lookup ("made" : Str) = none := by unfold pF; walk_at "lk"
theorem pF_moment : (pF x l).lookup ("moment" : Str) = none := by unfold pF; walk_at "lk"
theorem pF_last_weight : (pF x l).lookup ("last_weight" : Str) = none := by unfold pF; walk_at "lk"
theorem pF_last_mark : (pF x l).lookup ("last_mark" : Str) = none := by unfold pF; walk_at "lk"
theorem pF_needs : (pF x l).lookup ("needs" : Str) = none := by unfold pF; walk_at "lk"
theorem pF_best : (pF x l).lookup ("best" : Str) = none := by unfold pF; walk_at "lk"
theorem pF_ask_for : (pF x l).lookup ("ask_for" : Str) = none := by unfold pF; walk_at "lk"
theorem pF_change_to : (pF x l).lookup ("change_to" : Str) = none := by unfold pF; walk_at "lk"
theorem pF_take : (pF x l).lookup ("take" : Str) = none := by unfold pF; walk_at "lk"
theorem pF_turn : (pF x l).lookup ("turn" : Str) = none := by unfold pF; walk_at "lk"
theorem pF_put_asks (n : Nat) : putF "asks" (.int n) (pF x l) = pF { x with next := n } l := by unfold pF; walk_at "pt"
theorem pF_put_changed (n : Nat) : putF "changed" (.int n) (pF x l) = pF { x with changes := n } l := by unfold pF; walk_at "pt"
theorem pF_new (l : PL) : putF "moments" (.ref l.t) (putF "marks" (.ref l.k) (putF "weights" (.ref l.w) (putF "changed" (.int 0) (putF "asks" (.int 0) [])))) = pF ⟨[], 0, 0⟩ l := by
  have e1 : putF "asks" (.int 0) [] = [(("asks" : Str), V.int 0)] := rfl
  have e2 : putF "changed" (.int 0) [(("asks" : Str), V.int 0)] = [(("asks" : Str), V.int 0), ("changed", .int 0)] := by walk_at "pt"
  have e3 : putF "weights" (.ref l.w) [(("asks" : Str), V.int 0), ("changed", .int 0)] = [(("asks" : Str), V.int 0), ("changed", .int 0), ("weights", .ref l.w)] := by walk_at "pt"
  have e4 : putF "marks" (.ref l.k) [(("asks" : Str), V.int 0), ("changed", .int 0), ("weights", .ref l.w)] = [(("asks" : Str), V.int 0), ("changed", .int 0), ("weights", .ref l.w), ("marks", .ref l.k)] := by walk_at "pt"
  rw [e1, e2, e3, e4]
  unfold pF
  walk_at "pt"
theorem pF_len : (pF x l).length < 1000 := by show 5 < 1000; decide
end
end BC
/-! BcPart -/
/-! The class Part: what each method promises, and that it keeps it. -/
namespace BC
open PySem PySem.Spec PyProof.Rows L2

/-! ### promises -/
def spPartInit (C : Addr) : Sp := fun vs H Q _ => ∃ (p dx : Addr), vs = [.ref p] ∧ H p = some (.ins C dx []) ∧
  ∀ (H' : Hp) (l : PL), l.p = p → l.ok → H l.w = none → H l.k = none → H l.t = none → PartAt C H' l ⟨[], 0, 0⟩ → (∀ b o, H b = some o → b ≠ p → H' b = some o) → Q .non H'
def spMade (C : Addr) : Sp := fun vs H Q _ => ∃ l x, vs = [.ref l.p] ∧ PartAt C H l x ∧ Q (.int x.tries.length) H
def spMoment (C : Addr) : Sp := fun vs H Q _ => ∃ (l : PL) (x : Kg59.Lift) (m : Nat), vs = [.ref l.p, .int m] ∧ PartAt C H l x ∧ m ≤ x.tries.length ∧ Q (.int (mom x m)) H
def spLastW (C : Addr) : Sp := fun vs H Q _ => ∃ l x, vs = [.ref l.p] ∧ PartAt C H l x ∧ Q (.int (lastW x)) H
def spLastG (C : Addr) : Sp := fun vs H Q _ => ∃ l x, vs = [.ref l.p] ∧ PartAt C H l x ∧ Q (.int (lastG x)) H
def spNeeds (C : Addr) : Sp := fun vs H Q _ => ∃ l x, vs = [.ref l.p] ∧ PartAt C H l x ∧ Q (.int (needs x)) H
def spBest (K : PySem.W.Frag) (C : Addr) : Sp := fun vs H Q _ => ∃ l x, vs = [.ref l.p] ∧ PartAt C H l x ∧ x.tries.length ≤ 3 ∧ (∀ t ∈ x.tries, 1 ≤ t.weight) ∧
  ∀ H' p, Same H H' → H p = none → SqT K H' p [.int (bestP x).1, .int (bestP x).2] → Q (.ref p) H'
def spAskFor (C : Addr) : Sp := fun vs H Q _ => ∃ (l : PL) (x : Kg59.Lift) (n : Nat), vs = [.ref l.p, .int n] ∧ PartAt C H l x ∧ l.ok ∧
  ∀ H', PartAt C H' l { x with next := n } → (∀ a, ¬ l.has a → H' a = H a) → Q .non H'
def spChangeTo (C : Addr) : Sp := fun vs H Q _ => ∃ (l : PL) (x : Kg59.Lift) (n : Nat), vs = [.ref l.p, .int n] ∧ PartAt C H l x ∧ l.ok ∧
  ∀ H', PartAt C H' l { x with next := n, changes := x.changes + 1 } → (∀ a, ¬ l.has a → H' a = H a) → Q .non H'
def spTake (C : Addr) : Sp := fun vs H Q _ => ∃ (l : PL) (x : Kg59.Lift) (g c : Nat), vs = [.ref l.p, .int g, .int ((c : Int) + 1)] ∧ PartAt C H l x ∧ l.ok ∧ x.tries.length ≤ 3 ∧
  ∀ H', PartAt C H' l (taken x g c) → (∀ a, ¬ l.has a → H' a = H a) → Q .non H'
def spTurn (C : Addr) : Sp := fun vs H Q _ => ∃ (l : PL) (x : Kg59.Lift) (t : Kg59.Try), vs = [.ref l.p] ∧ PartAt C H l x ∧ l.ok ∧ x.tries.getLast? = some t ∧ t.good ≤ 1 ∧
  ∀ H', PartAt C H' l (turned x t) → (∀ a, ¬ l.has a → H' a = H a) → Q .non H'
def spRight (lo hi : Int) : Sp := fun vs H Q _ => ∃ n : Int, vs = [.int n] ∧ Q (.bl (decide (lo ≤ n) && decide (n ≤ hi))) H

section
variable {P : Program} {w : World} {K : PySem.W.Frag} {mg : Str → Option Value} {base : Heap} {A : Adr}
variable {σ : L2.St} {H H' : Hp} {te tb : TE} {l : PL} {x : Kg59.Lift}

theorem PartAt.mono {C : Addr} (Pt : PartAt C H l x) (e : Same H H') : PartAt C H' l x := by
  obtain ⟨⟨dx, h⟩, h1, h2, h3⟩ := Pt
  exact ⟨⟨dx, e _ _ h⟩, e _ _ h1, e _ _ h2, e _ _ h3⟩
theorem PartAt.same {C : Addr} (Pt : PartAt C H l x) (e : ∀ a, l.has a → H' a = H a) : PartAt C H' l x := by
  obtain ⟨⟨dx, h⟩, h1, h2, h3⟩ := Pt
  exact ⟨⟨dx, (e _ (.inl rfl)).trans h⟩, (e _ (.inr (.inl rfl))).trans h1, (e _ (.inr (.inr (.inl rfl)))).trans h2, (e _ (.inr (.inr (.inr rfl)))).trans h3⟩
theorem PartAt.pw {C : Addr} (Pt : PartAt C H l x) : l.p ≠ l.w := by
  obtain ⟨⟨dx, h⟩, h1, h2, h3⟩ := Pt
  exact ne_of h h1 (by intro z; cases z)
theorem PartAt.pk {C : Addr} (Pt : PartAt C H l x) : l.p ≠ l.k := by
  obtain ⟨⟨dx, h⟩, h1, h2, h3⟩ := Pt
  exact ne_of h h2 (by intro z; cases z)
theorem PartAt.pt {C : Addr} (Pt : PartAt C H l x) : l.p ≠ l.t := by
  obtain ⟨⟨dx, h⟩, h1, h2, h3⟩ := Pt
  exact ne_of h h3 (by intro z; cases z)

/-! ### fields and methods of a part, by value -/
theorem vf_asks (T : Txt K mg A) (Pt : PartAt A.Part H l x) (h : Val te σ H (.ref l.p)) : Val (tFld K te "asks") σ H (.int x.next) := by
  obtain ⟨dx, hp⟩ := Pt.obj
  exact val_fld h hp T.cl_Part T.n_asks pF_asks
theorem vf_changed (T : Txt K mg A) (Pt : PartAt A.Part H l x) (h : Val te σ H (.ref l.p)) : Val (tFld K te "changed") σ H (.int x.changes) := by
  obtain ⟨dx, hp⟩ := Pt.obj
  exact val_fld h hp T.cl_Part T.n_changed pF_changed
theorem vf_weights (T : Txt K mg A) (Pt : PartAt A.Part H l x) (h : Val te σ H (.ref l.p)) : Val (tFld K te "weights") σ H (.ref l.w) := by
  obtain ⟨dx, hp⟩ := Pt.obj
  exact val_fld h hp T.cl_Part T.n_weights pF_weights
theorem vf_marks (T : Txt K mg A) (Pt : PartAt A.Part H l x) (h : Val te σ H (.ref l.p)) : Val (tFld K te "marks") σ H (.ref l.k) := by
  obtain ⟨dx, hp⟩ := Pt.obj
  exact val_fld h hp T.cl_Part T.n_marks pF_marks
theorem vf_moments (T : Txt K mg A) (Pt : PartAt A.Part H l x) (h : Val te σ H (.ref l.p)) : Val (tFld K te "moments") σ H (.ref l.t) := by
  obtain ⟨dx, hp⟩ := Pt.obj
  exact val_fld h hp T.cl_Part T.n_moments pF_moments
theorem vm_made (Pt : PartAt A.Part H l x) (h : Val te σ H (.ref l.p)) : Val (tMeth A.Part "made" (spMade A.Part) [] E0 te tNil) σ H (.int x.tries.length) := by
  obtain ⟨dx, hp⟩ := Pt.obj
  intro Q q
  exact h _ ⟨l.p, dx, _, rfl, hp, pF_made, l, x, rfl, Pt, q⟩
theorem vm_moment {m : Nat} (Pt : PartAt A.Part H l x) (h : Val te σ H (.ref l.p)) (k : Val tb σ H (.int m)) (hm : m ≤ x.tries.length) : Val (tMeth A.Part "moment" (spMoment A.Part) [] E0 te (tCons tb tNil)) σ H (.int (mom x m)) := by
  obtain ⟨dx, hp⟩ := Pt.obj
  intro Q q
  exact h _ ⟨l.p, dx, _, rfl, hp, pF_moment, k _ ⟨l, x, m, rfl, Pt, hm, q⟩⟩
theorem vm_lastW (Pt : PartAt A.Part H l x) (h : Val te σ H (.ref l.p)) : Val (tMeth A.Part "last_weight" (spLastW A.Part) [] E0 te tNil) σ H (.int (lastW x)) := by
  obtain ⟨dx, hp⟩ := Pt.obj
  intro Q q
  exact h _ ⟨l.p, dx, _, rfl, hp, pF_last_weight, l, x, rfl, Pt, q⟩
theorem vm_lastG (Pt : PartAt A.Part H l x) (h : Val te σ H (.ref l.p)) : Val (tMeth A.Part "last_mark" (spLastG A.Part) [] E0 te tNil) σ H (.int (lastG x)) := by
  obtain ⟨dx, hp⟩ := Pt.obj
  intro Q q
  exact h _ ⟨l.p, dx, _, rfl, hp, pF_last_mark, l, x, rfl, Pt, q⟩
theorem vm_needs (Pt : PartAt A.Part H l x) (h : Val te σ H (.ref l.p)) : Val (tMeth A.Part "needs" (spNeeds A.Part) [] E0 te tNil) σ H (.int (needs x)) := by
  obtain ⟨dx, hp⟩ := Pt.obj
  intro Q q
  exact h _ ⟨l.p, dx, _, rfl, hp, pF_needs, l, x, rfl, Pt, q⟩
theorem len_w : (wts x).length = x.tries.length := List.length_map ..
theorem len_k : (mks x).length = x.tries.length := List.length_map ..
theorem len_m : (mms x).length = x.tries.length := List.length_map ..
theorem at_w {i : Nat} {t : Kg59.Try} (h : x.tries[i]? = some t) : (wts x)[i]? = some (.int t.weight) := by unfold wts; rw [List.getElem?_map, h]; rfl
theorem at_k {i : Nat} {t : Kg59.Try} (h : x.tries[i]? = some t) : (mks x)[i]? = some (.int t.good) := by unfold mks; rw [List.getElem?_map, h]; rfl
theorem at_m {i : Nat} {t : Kg59.Try} (h : x.tries[i]? = some t) : (mms x)[i]? = some (.int ((t.at_ : Int) + 1)) := by unfold mms; rw [List.getElem?_map, h]; rfl

/-! ### the bodies -/
theorem ok_right_weight (T : Txt K mg A) : FnOk P w K mg base CX0 1 A.f_right_weight A.d_right_weight ["weight"] (spRight 1 500) := by
  refine T.F_right_weight.ok sc_right_weight (fun vs H Q E h => ?_) (fun cdv A' outer s H vs Q E hr h => ?_)
  · obtain ⟨n, rfl, _⟩ := h; rfl
  · obtain ⟨n, rfl, q⟩ := h
    refine ⟨_, (pss_one (ps_ret (pe_and (pe_cmpR op_le (pe_cst rfl T.c_LEAST_WEIGHT) (pv 0) (nomark _)) (pe_one (pe_cmpR op_le (pv 0) (pe_cst rfl T.c_MOST_WEIGHT) (nomark _)))))), ?_⟩
    exact s_ret (v_and (v_le v_c (v_var rfl)) (v_le (v_var rfl) v_c)) q
theorem ok_right_team (T : Txt K mg A) : FnOk P w K mg base CX0 1 A.f_right_team A.d_right_team ["team"] (spRight 0 20) := by
  refine T.F_right_team.ok sc_right_team (fun vs H Q E h => ?_) (fun cdv A' outer s H vs Q E hr h => ?_)
  · obtain ⟨n, rfl, _⟩ := h; rfl
  · obtain ⟨n, rfl, q⟩ := h
    refine ⟨_, (pss_one (ps_ret (pe_and (pe_cmpR op_le pe_int (pv 0) (nomark _)) (pe_one (pe_cmpR op_le (pv 0) (pe_cst rfl T.c_MOST_TEAM) (nomark _)))))), ?_⟩
    exact s_ret (v_and (v_le v_c (v_var rfl)) (v_le (v_var rfl) v_c)) q
theorem ok_made (T : Txt K mg A) : FnOk P w K mg base CX0 1 A.f_made A.d_made ["self"] (spMade A.Part) := by
  refine T.F_made.ok sc_made (fun vs H Q E h => ?_) (fun cdv A' outer s H vs Q E hr h => ?_)
  · obtain ⟨l, x, rfl, _⟩ := h; rfl
  · obtain ⟨l, x, rfl, Pt, q⟩ := h
    refine ⟨_, (pss_one (ps_ret (pe_callB call_len_seq (by rfl) T.b_len PySem.boot_len (pa_cons (pe_fld (pv 0) rfl) pa_nil)))), ?_⟩
    refine s_ret (v_len (vf_weights T Pt (v_var rfl)) (SqL.of Pt.w)) ?_
    rw [len_w]
    exact q
theorem ok_moment (T : Txt K mg A) : FnOk P w K mg base CX0 1 A.f_moment A.d_moment ["self", "many"] (spMoment A.Part) := by
  refine T.F_moment.ok sc_moment (fun vs H Q E h => ?_) (fun cdv A' outer s H vs Q E hr h => ?_)
  · obtain ⟨l, x, m, rfl, _⟩ := h; rfl
  · obtain ⟨l, x, m, rfl, Pt, hm, q⟩ := h
    refine ⟨_, (pss_cons (ps_if (pt_cmpR op_eq (pv 1) pe_int (nomark _))
      (pss_one (ps_ret pe_int))
      pss_nil)
      (pss_one (ps_ret (pe_ix ix_list (pe_fld (pv 0) rfl) (pe_op op_sub (pv 1) pe_int) (fun _ _ => rfl))))), ?_⟩
    refine s_if (t_v (v_eq (v_var rfl) v_c)) (fun e => s_ret v_c ?_) (fun e => ?_)
    · have e0 : m = 0 := by have := of_decide_eq_true e; omega
      subst e0
      exact q
    · have e0 : m ≠ 0 := by have := of_decide_eq_false e; omega
      obtain ⟨t, ht⟩ : ∃ t, x.tries[m - 1]? = some t := ⟨_, List.getElem?_eq_getElem (by omega)⟩
      refine s_ret (v_ix (vf_moments T Pt (v_var rfl)) (v_sub (v_var rfl) v_c) (SqL.of Pt.t) (at_z (j := m - 1) (by omega) (at_m ht))) ?_
      rw [mom_pos e0 ht] at q
      exact q
theorem ok_last_weight (T : Txt K mg A) : FnOk P w K mg base CX0 2 A.f_last_weight A.d_last_weight ["self"] (spLastW A.Part) := by
  refine T.F_last_weight.ok sc_last_weight (fun vs H Q E h => ?_) (fun cdv A' outer s H vs Q E hr h => ?_)
  · obtain ⟨l, x, rfl, _⟩ := h; rfl
  · obtain ⟨l, x, rfl, Pt, q⟩ := h
    refine ⟨_, (pss_cons (ps_if (pt_cmpR op_eq (pe_meth0 (pv 0) T.cl_Part T.m_made (ok_made T) hr (b_made T) .nil pass0) pe_int (nomark _))
      (pss_one (ps_ret pe_int))
      pss_nil)
      (pss_one (ps_ret (pe_ix ix_list (pe_fld (pv 0) rfl) (pe_op op_sub (pe_meth0 (pv 0) T.cl_Part T.m_made (ok_made T) hr (b_made T) .nil pass0) pe_int) (fun _ _ => rfl))))), ?_⟩
    refine s_if (t_v (v_eq (vm_made Pt (v_var rfl)) v_c)) (fun e => s_ret v_c ?_) (fun e => ?_)
    · have e0 : x.tries.length = 0 := by have := of_decide_eq_true e; omega
      rw [lastW_nil e0] at q
      exact q
    · have e0 : x.tries.length ≠ 0 := by have := of_decide_eq_false e; omega
      obtain ⟨t, ht⟩ := last_some e0
      refine s_ret (v_ix (vf_weights T Pt (v_var rfl)) (v_sub (vm_made Pt (v_var rfl)) v_c) (SqL.of Pt.w) (at_z (j := x.tries.length - 1) (by omega) (at_w ht))) ?_
      rw [lastW_at ht] at q
      exact q
theorem ok_last_mark (T : Txt K mg A) : FnOk P w K mg base CX0 2 A.f_last_mark A.d_last_mark ["self"] (spLastG A.Part) := by
  refine T.F_last_mark.ok sc_last_mark (fun vs H Q E h => ?_) (fun cdv A' outer s H vs Q E hr h => ?_)
  · obtain ⟨l, x, rfl, _⟩ := h; rfl
  · obtain ⟨l, x, rfl, Pt, q⟩ := h
    refine ⟨_, (pss_cons (ps_if (pt_cmpR op_eq (pe_meth0 (pv 0) T.cl_Part T.m_made (ok_made T) hr (b_made T) .nil pass0) pe_int (nomark _))
      (pss_one (ps_ret pe_int))
      pss_nil)
      (pss_one (ps_ret (pe_ix ix_list (pe_fld (pv 0) rfl) (pe_op op_sub (pe_meth0 (pv 0) T.cl_Part T.m_made (ok_made T) hr (b_made T) .nil pass0) pe_int) (fun _ _ => rfl))))), ?_⟩
    refine s_if (t_v (v_eq (vm_made Pt (v_var rfl)) v_c)) (fun e => s_ret v_c ?_) (fun e => ?_)
    · have e0 : x.tries.length = 0 := by have := of_decide_eq_true e; omega
      rw [lastG_nil e0] at q
      exact q
    · have e0 : x.tries.length ≠ 0 := by have := of_decide_eq_false e; omega
      obtain ⟨t, ht⟩ := last_some e0
      refine s_ret (v_ix (vf_marks T Pt (v_var rfl)) (v_sub (vm_made Pt (v_var rfl)) v_c) (SqL.of Pt.k) (at_z (j := x.tries.length - 1) (by omega) (at_k ht))) ?_
      rw [lastG_at ht] at q
      exact q
theorem ok_needs (T : Txt K mg A) : FnOk P w K mg base CX0 3 A.f_needs A.d_needs ["self"] (spNeeds A.Part) := by
  refine T.F_needs.ok sc_needs (fun vs H Q E h => ?_) (fun cdv A' outer s H vs Q E hr h => ?_)
  · obtain ⟨l, x, rfl, _⟩ := h; rfl
  · obtain ⟨l, x, rfl, Pt, q⟩ := h
    refine ⟨_, (pss_cons (ps_if (pt_cmpR op_eq (pe_meth0 (pv 0) T.cl_Part T.m_last_mark (ok_last_mark T) hr (b_last_mark T) .nil pass0) (pe_cst rfl T.c_GOOD) (nomark _))
      (pss_one (ps_ret (pe_op op_add (pe_meth0 (pv 0) T.cl_Part T.m_last_weight (ok_last_weight T) hr (b_last_weight T) .nil pass0) pe_int)))
      pss_nil)
      (pss_one (ps_ret (pe_meth0 (pv 0) T.cl_Part T.m_last_weight (ok_last_weight T) hr (b_last_weight T) .nil pass0)))), ?_⟩
    unfold needs at q
    refine s_if (t_v (v_eq (vm_lastG Pt (v_var rfl)) v_c)) (fun e => s_ret (v_add (vm_lastW Pt (v_var rfl)) v_c) ?_) (fun e => s_ret (vm_lastW Pt (v_var rfl)) ?_)
    · have e0 : lastG x = 1 := by have := of_decide_eq_true e; omega
      rw [if_pos e0] at q
      exact q
    · have e0 : ¬ lastG x = 1 := by have := of_decide_eq_false e; omega
      rw [if_neg e0] at q
      exact q
end
end BC
/-! BcPart2 -/
/-! The class Part: what makes and changes one. -/
namespace BC
open PySem PySem.Spec PyProof.Rows L2

section
variable {P : Program} {w : World} {K : PySem.W.Frag} {mg : Str → Option Value} {base : Heap} {A : Adr}
variable {σ : L2.St} {H H' : Hp} {te tb : TE} {l : PL} {x : Kg59.Lift} {D : Ends}

/-- o.f = [] : a new list at the field -/
theorem s_fldL {i : Nat} {a C dx : Addr} {fs : List (Str × V)} {f : Str} (hx : σ[i]? = some (some (.ref a))) (ho : H a = some (.ins C dx fs)) (hc : Cls K C) (hn : NoAttr K C f) (hl : fs.length < 1000)
    (q : ∀ p, H p = none → D.nx σ (upd (upd H p (.lst [])) a (.ins C dx (putF f (.ref p) fs)))) : sFld K (tVar i) (tLst tNil) f D σ H :=
  ⟨Nat.zero_le _, fun p hp => ⟨_, hx, a, C, dx, fs, rfl, by rw [upd_ne (ne_of_none ho hp)]; exact ho, hc, hn, hl, q p hp⟩⟩

/-- for i in range(e) -/
theorem s_forR {g : TG} {tb : TS} {n : Nat} (h : Val te σ H (.int n)) (hn : n ≤ 100000) (Pv : Nat → L2.St → Hp → Prop) (h0 : Pv 0 σ H)
    (hs : ∀ i σ H, i < n → Pv i σ H → g (.int i) σ H fun σ2 H2 => tb { D with nx := Pv (i + 1), ct := Pv (i + 1), bk := D.nx } σ2 H2) (hd : ∀ σ H, Pv n σ H → D.nx σ H) : tFor (iRng1 (tCons te tNil)) g tb D σ H :=
  h _ ⟨n, rfl, by omega, by omega, for_range (lo := 0) (n := n) Pv h0 (fun i σ H hi p => by rw [Int.zero_add]; exact hs i σ H hi p) hd⟩

theorem ok_Part_init (T : Txt K mg A) : FnOk P w K mg base CX0 1 A.f_Part_init A.d_Part_init ["self"] (spPartInit A.Part) := by
  refine T.F_Part_init.ok sc_Part_init (fun vs H Q E h => ?_) (fun cdv A' outer s H vs Q E hr h => ?_)
  · obtain ⟨p, dx, rfl, _⟩ := h; rfl
  · obtain ⟨p, dx, rfl, hp, q⟩ := h
    refine ⟨_, (pss_cons (ps_fld (pv 0) pe_int rfl)
      (pss_cons (ps_fld (pv 0) pe_int rfl)
      (pss_cons (ps_fld (pv 0) (pe_lst pa_nil) rfl)
      (pss_cons (ps_fld (pv 0) (pe_lst pa_nil) rfl)
      (pss_one (ps_fld (pv 0) (pe_lst pa_nil) rfl)))))), ?_⟩
    refine st_fld v_c (v_var rfl) hp T.cl_Part T.n_asks (by show 0 < 1000; decide) ?_
    refine st_fld v_c (v_var rfl) upd_same T.cl_Part T.n_changed (by show 1 < 1000; decide) ?_
    refine s_fldL rfl upd_same T.cl_Part T.n_weights (by show 2 < 1000; decide) fun w hw => ?_
    refine s_fldL rfl upd_same T.cl_Part T.n_marks (by show 3 < 1000; decide) fun k hk => ?_
    refine s_fldL rfl upd_same T.cl_Part T.n_moments (by show 4 < 1000; decide) fun t ht => ?_
    have wp : w ≠ p := fun z => by rw [z, upd_same] at hw; cases hw
    rw [upd_ne wp, upd_ne wp] at hw
    have kp : k ≠ p := fun z => by rw [z, upd_same] at hk; cases hk
    rw [upd_ne kp] at hk
    have kw : k ≠ w := fun z => by rw [z, upd_same] at hk; cases hk
    rw [upd_ne kw, upd_ne kp, upd_ne kp] at hk
    have tp : t ≠ p := fun z => by rw [z, upd_same] at ht; cases ht
    rw [upd_ne tp] at ht
    have tk : t ≠ k := fun z => by rw [z, upd_same] at ht; cases ht
    rw [upd_ne tk, upd_ne tp] at ht
    have tw : t ≠ w := fun z => by rw [z, upd_same] at ht; cases ht
    rw [upd_ne tw, upd_ne tp, upd_ne tp] at ht
    refine q _ ⟨p, w, k, t⟩ rfl ⟨kw.symm, tw.symm, tk.symm⟩ hw hk ht ⟨⟨dx, ?_⟩, ?_, ?_, ?_⟩ fun b o e nb => ?_
    · rw [upd_same]
      exact congrArg (fun z => some (HO.ins A.Part dx z)) (pF_new ⟨p, w, k, t⟩)
    · rw [upd_ne wp, upd_ne tw.symm, upd_ne wp, upd_ne kw.symm, upd_ne wp, upd_same]; rfl
    · rw [upd_ne kp, upd_ne tk.symm, upd_ne kp, upd_same]; rfl
    · rw [upd_ne tp, upd_same]; rfl
    · rw [upd_ne nb, upd_ne (ne_of_none e ht), upd_ne nb, upd_ne (ne_of_none e hk), upd_ne nb, upd_ne (ne_of_none e hw), upd_ne nb, upd_ne nb]
      exact e

theorem ok_ask_for (T : Txt K mg A) : FnOk P w K mg base CX0 1 A.f_ask_for A.d_ask_for ["self", "weight"] (spAskFor A.Part) := by
  refine T.F_ask_for.ok sc_ask_for (fun vs H Q E h => ?_) (fun cdv A' outer s H vs Q E hr h => ?_)
  · obtain ⟨l, x, n, rfl, _⟩ := h; rfl
  · obtain ⟨l, x, n, rfl, Pt, lo, q⟩ := h
    refine ⟨_, (pss_one (ps_fld (pv 0) (pv 1) rfl)), ?_⟩
    obtain ⟨dx, hp⟩ := Pt.obj
    refine st_fld (v_var rfl) (v_var rfl) hp T.cl_Part T.n_asks pF_len ?_
    rw [pF_put_asks]
    refine q _ ⟨⟨dx, upd_same⟩, ?_, ?_, ?_⟩ fun a na => upd_ne fun z => na (.inl z)
    · rw [upd_ne Pt.pw.symm]; exact Pt.w
    · rw [upd_ne Pt.pk.symm]; exact Pt.k
    · rw [upd_ne Pt.pt.symm]; exact Pt.t
theorem ok_change_to (T : Txt K mg A) : FnOk P w K mg base CX0 1 A.f_change_to A.d_change_to ["self", "weight"] (spChangeTo A.Part) := by
  refine T.F_change_to.ok sc_change_to (fun vs H Q E h => ?_) (fun cdv A' outer s H vs Q E hr h => ?_)
  · obtain ⟨l, x, n, rfl, _⟩ := h; rfl
  · obtain ⟨l, x, n, rfl, Pt, lo, q⟩ := h
    refine ⟨_, (pss_cons (ps_fld (pv 0) (pv 1) rfl)
      (pss_one (ps_fldaug (pv 0) pe_int in_add))), ?_⟩
    obtain ⟨dx, hp⟩ := Pt.obj
    refine st_fld (v_var rfl) (v_var rfl) hp T.cl_Part T.n_asks pF_len ?_
    rw [pF_put_asks]
    refine st_aug (z := .int ((x.changes + 1 : Nat) : Int)) (v_var rfl) upd_same T.cl_Part T.n_changed pF_changed v_c (fun Q q => ⟨_, _, rfl, rfl, q⟩) pF_len ?_
    rw [pF_put_changed]
    refine q _ ⟨⟨dx, upd_same⟩, ?_, ?_, ?_⟩ fun a na => (upd_ne fun z => na (.inl z)).trans (upd_ne fun z => na (.inl z))
    · rw [upd_ne Pt.pw.symm, upd_ne Pt.pw.symm]; exact Pt.w
    · rw [upd_ne Pt.pk.symm, upd_ne Pt.pk.symm]; exact Pt.k
    · rw [upd_ne Pt.pt.symm, upd_ne Pt.pt.symm]; exact Pt.t

theorem ok_take (T : Txt K mg A) : FnOk P w K mg base CX0 4 A.f_take A.d_take ["self", "mark", "moment"] (spTake A.Part) := by
  refine T.F_take.ok sc_take (fun vs H Q E h => ?_) (fun cdv A' outer s H vs Q E hr h => ?_)
  · obtain ⟨l, x, g, c, rfl, _⟩ := h; rfl
  · obtain ⟨l, x, g, c, rfl, Pt, lo, h3, q⟩ := h
    refine ⟨_, (pss_cons (ps_expr (pe_bm PySem.F.plainAttrs_list PySem.F.slot_list_append PySem.F.type_list_append mt_append (pe_fld (pv 0) rfl) (pa_cons (pe_fld (pv 0) rfl) pa_nil)))
      (pss_cons (ps_expr (pe_bm PySem.F.plainAttrs_list PySem.F.slot_list_append PySem.F.type_list_append mt_append (pe_fld (pv 0) rfl) (pa_cons (pv 1) pa_nil)))
      (pss_cons (ps_expr (pe_bm PySem.F.plainAttrs_list PySem.F.slot_list_append PySem.F.type_list_append mt_append (pe_fld (pv 0) rfl) (pa_cons (pv 2) pa_nil)))
      (pss_cons (ps_fld (pv 0) (pe_meth0 (pv 0) T.cl_Part T.m_needs (ok_needs T) hr (b_needs T) .nil pass0) rfl)
      (pss_one (ps_fld (pv 0) pe_int rfl)))))), ?_⟩
    obtain ⟨dx, hp⟩ := Pt.obj
    refine s_app (vf_weights T Pt (v_var rfl)) Pt.w (vf_asks T Pt (v_var rfl)) (by rw [len_w]; omega) ?_
    refine s_app (val_fld (v_var rfl) (by rw [upd_ne Pt.pw]; exact hp) T.cl_Part T.n_marks pF_marks) (by rw [upd_ne lo.wk.symm]; exact Pt.k) (v_var rfl) (by rw [len_k]; omega) ?_
    refine s_app (val_fld (v_var rfl) (by rw [upd_ne Pt.pk, upd_ne Pt.pw]; exact hp) T.cl_Part T.n_moments pF_moments) (by rw [upd_ne lo.kt.symm, upd_ne lo.wt.symm]; exact Pt.t) (v_var rfl) (by rw [len_m]; omega) ?_
    generalize hG : upd (upd (upd H l.w (.lst (wts x ++ [V.int x.next]))) l.k (.lst (mks x ++ [V.int g]))) l.t (.lst (mms x ++ [V.int ((c : Int) + 1)])) = G
    have gp : G l.p = some (.ins A.Part dx (pF x l)) := by rw [← hG, upd_ne Pt.pt, upd_ne Pt.pk, upd_ne Pt.pw]; exact hp
    have gw : G l.w = some (.lst (wts ⟨x.tries ++ [⟨x.next, g, c⟩], x.next, x.changes⟩)) := by
      rw [← hG, upd_ne lo.wt, upd_ne lo.wk, upd_same]; unfold wts; rw [List.map_append]; rfl
    have gk : G l.k = some (.lst (mks ⟨x.tries ++ [⟨x.next, g, c⟩], x.next, x.changes⟩)) := by
      rw [← hG, upd_ne lo.kt, upd_same]; unfold mks; rw [List.map_append]; rfl
    have gt : G l.t = some (.lst (mms ⟨x.tries ++ [⟨x.next, g, c⟩], x.next, x.changes⟩)) := by
      rw [← hG, upd_same]; unfold mms; rw [List.map_append]; rfl
    have go : ∀ a, ¬ l.has a → G a = H a := fun a na => by
      rw [← hG, upd_ne fun z => na (.inr (.inr (.inr z))), upd_ne fun z => na (.inr (.inr (.inl z))), upd_ne fun z => na (.inr (.inl z))]
    clear hG
    have Gt : PartAt A.Part G l ⟨x.tries ++ [⟨x.next, g, c⟩], x.next, x.changes⟩ := ⟨⟨dx, gp⟩, gw, gk, gt⟩
    refine st_fld (vm_needs Gt (v_var rfl)) (v_var rfl) gp T.cl_Part T.n_asks pF_len ?_
    rw [needs_taken, pF_put_asks]
    refine st_fld v_c (v_var rfl) upd_same T.cl_Part T.n_changed pF_len ?_
    refine q _ ⟨⟨dx, ?_⟩, ?_, ?_, ?_⟩ fun a na => ((upd_ne fun z => na (.inl z)).trans (upd_ne fun z => na (.inl z))).trans (go a na)
    · rw [upd_same]
      exact congrArg (fun z => some (HO.ins A.Part dx z)) (pF_put_changed 0)
    · rw [upd_ne Pt.pw.symm, upd_ne Pt.pw.symm]; exact gw
    · rw [upd_ne Pt.pk.symm, upd_ne Pt.pk.symm]; exact gk
    · rw [upd_ne Pt.pt.symm, upd_ne Pt.pt.symm]; exact gt

theorem ok_turn (T : Txt K mg A) : FnOk P w K mg base CX0 4 A.f_turn A.d_turn ["self"] (spTurn A.Part) := by
  refine T.F_turn.ok sc_turn (fun vs H Q E h => ?_) (fun cdv A' outer s H vs Q E hr h => ?_)
  · obtain ⟨l, x, t, rfl, _⟩ := h; rfl
  · obtain ⟨l, x, t, rfl, Pt, lo, ht, g1, q⟩ := h
    refine ⟨_, (pss_cons (ps_asg (pe_op op_sub pe_int (pe_meth0 (pv 0) T.cl_Part T.m_last_mark (ok_last_mark T) (hr.mono (by decide)) (b_last_mark T) .nil pass0)) (pg_sub (pe_fld (pv 0) rfl) (pe_op op_sub (pe_meth0 (pv 0) T.cl_Part T.m_made (ok_made T) (hr.mono (by decide)) (b_made T) .nil pass0) pe_int) set_list))
      (pss_one (ps_if (pt_cmpR op_gt (pe_fld (pv 0) rfl) pe_int (nomark _))
      (pss_one (ps_fld (pv 0) (pe_callB (call_max2 rfl) (by rfl) T.b_max (by decide +kernel) (pa_cons (pe_meth0 (pv 0) T.cl_Part T.m_needs (ok_needs T) hr (b_needs T) .nil pass0) (pa_cons (pe_fld (pv 0) rfl) pa_nil))) rfl))
      (pss_one (ps_fld (pv 0) (pe_meth0 (pv 0) T.cl_Part T.m_needs (ok_needs T) hr (b_needs T) .nil pass0) rfl))))), ?_⟩
    obtain ⟨dx, hp⟩ := Pt.obj
    have ne : x.tries ≠ [] := fun z => by rw [z] at ht; cases ht
    have lp : 0 < x.tries.length := List.length_pos_iff.mpr ne
    have hg : lastG x = t.good := by unfold lastG; rw [ht]; rfl
    refine v_sub (a := 1) (b := t.good) v_c (v_is (vm_lastG Pt (v_var rfl)) (by rw [hg])) _ ?_
    refine vf_marks T Pt (v_var rfl) _ ?_
    refine v_sub (vm_made Pt (v_var rfl)) v_c _ ?_
    refine ⟨l.k, mks x, _, x.tries.length - 1, rfl, rfl, Pt.k, ?_, ?_⟩
    · have e : ((x.tries.length : Int) - 1) = ((x.tries.length - 1 : Nat) : Int) := by omega
      rw [e, len_k]
      unfold ixN
      rw [if_pos (by omega), if_pos (by omega), Int.toNat_natCast]
    have em : (mks x).set (x.tries.length - 1) (V.int (1 - (t.good : Int))) = mks ⟨x.tries.dropLast ++ [turnTry t], x.next, x.changes⟩ := by
      have e1 : (1 - (t.good : Int)) = ((1 - t.good : Nat) : Int) := by omega
      rw [e1]
      exact set_last (fun t : Kg59.Try => V.int t.good) (u := turnTry t) ne
    rw [em]
    generalize hG : upd H l.k (.lst (mks ⟨x.tries.dropLast ++ [turnTry t], x.next, x.changes⟩)) = G
    have gp : G l.p = some (.ins A.Part dx (pF ⟨x.tries.dropLast ++ [turnTry t], x.next, x.changes⟩ l)) := by rw [← hG, upd_ne Pt.pk]; exact hp
    have gw : G l.w = some (.lst (wts ⟨x.tries.dropLast ++ [turnTry t], x.next, x.changes⟩)) := by
      rw [← hG, upd_ne lo.wk, Pt.w]
      exact congrArg (fun z => some (HO.lst z)) (map_turn (fun t : Kg59.Try => V.int t.weight) (fun _ => rfl) ht).symm
    have gk : G l.k = some (.lst (mks ⟨x.tries.dropLast ++ [turnTry t], x.next, x.changes⟩)) := by rw [← hG, upd_same]
    have gt : G l.t = some (.lst (mms ⟨x.tries.dropLast ++ [turnTry t], x.next, x.changes⟩)) := by
      rw [← hG, upd_ne lo.kt.symm, Pt.t]
      exact congrArg (fun z => some (HO.lst z)) (map_turn (fun t : Kg59.Try => V.int ((t.at_ : Int) + 1)) (fun _ => rfl) ht).symm
    have go : ∀ a, ¬ l.has a → G a = H a := fun a na => by rw [← hG, upd_ne fun z => na (.inr (.inr (.inl z)))]
    clear hG
    have Gt : PartAt A.Part G l ⟨x.tries.dropLast ++ [turnTry t], x.next, x.changes⟩ := ⟨⟨dx, gp⟩, gw, gk, gt⟩
    have nd : needs ⟨x.tries.dropLast ++ [turnTry t], x.next, x.changes⟩ = Kg59.behind (turnTry t) := needs_some (by simp)
    have fin : ∀ n : Nat, (if x.changes = 0 then Kg59.behind (turnTry t) else max x.next (Kg59.behind (turnTry t))) = n → Q .non (upd G l.p (.ins A.Part dx (pF ⟨x.tries.dropLast ++ [turnTry t], n, x.changes⟩ l))) := fun n e => by
      refine q _ ⟨⟨dx, ?_⟩, ?_, ?_, ?_⟩ fun a na => (upd_ne fun z => na (.inl z)).trans (go a na)
      · rw [upd_same, ← e]; rfl
      · rw [upd_ne Pt.pw.symm]; exact gw
      · rw [upd_ne Pt.pk.symm]; exact gk
      · rw [upd_ne Pt.pt.symm]; exact gt
    refine s_if (t_v (v_gt (vf_changed T Gt (v_var rfl)) v_c)) (fun e => ?_) (fun e => ?_)
    · have e0 : ¬ x.changes = 0 := by have := of_decide_eq_true e; intro z; rw [z] at this; omega
      refine st_fld (y := .int ((max x.next (Kg59.behind (turnTry t)) : Nat) : Int)) (v_is (v_max (vm_needs Gt (v_var rfl)) (vf_asks T Gt (v_var rfl))) ?_) (v_var rfl) gp T.cl_Part T.n_asks pF_len ?_
      · rw [nd]
        refine congrArg V.int ?_
        show (if (x.next : Int) > ((Kg59.behind (turnTry t) : Nat) : Int) then (x.next : Int) else ((Kg59.behind (turnTry t) : Nat) : Int)) = _
        split <;> omega
      · rw [pF_put_asks]
        exact fin _ (if_neg e0)
    · have e0 : x.changes = 0 := by have := of_decide_eq_false e; have e2 : ¬ (0 : Int) < (x.changes : Int) := this; omega
      refine st_fld (vm_needs Gt (v_var rfl)) (v_var rfl) gp T.cl_Part T.n_asks pF_len ?_
      rw [nd, pF_put_asks]
      exact fin _ (if_pos e0)

theorem ok_best (T : Txt K mg A) : FnOk P w K mg base CX0 1 A.f_best A.d_best ["self"] (spBest K A.Part) := by
  refine T.F_best.ok sc_best (fun vs H Q E h => ?_) (fun cdv A' outer s H vs Q E hr h => ?_)
  · obtain ⟨l, x, rfl, _⟩ := h; rfl
  · obtain ⟨l, x, rfl, Pt, h3, hw, q⟩ := h
    refine ⟨_, (pss_cons (ps_set (i := 1) sc_best.nd rfl (Or.inl rfl) (pe_tup (pa_cons pe_int (pa_cons pe_int pa_nil))))
      (pss_cons (ps_for PassesOwn.never rfl (pi_range1 (by rfl) T.b_range (pa_cons (pe_callB call_len_seq (by rfl) T.b_len PySem.boot_len (pa_cons (pe_fld (pv 0) rfl) pa_nil)) pa_nil)) (pg_name (i := 2) sc_best.nd rfl (Or.inl rfl))
      (pss_one (ps_if (PW.pt (pw_and (pt_cmpR op_eq (pe_ix ix_list (pe_fld (pv 0) rfl) (pv 2) (fun _ _ => rfl)) (pe_cst rfl T.c_GOOD) (nomark _)) (pw_and1 (pt_cmpR op_gt (pe_ix ix_list (pe_fld (pv 0) rfl) (pv 2) (fun _ _ => rfl)) (pe_ix ix_tup (pv 1) pe_int (fun _ _ => rfl)) (nomark _)))))
        (pss_one (ps_set (i := 1) sc_best.nd rfl (Or.inl rfl) (pe_tup (pa_cons (pe_ix ix_list (pe_fld (pv 0) rfl) (pv 2) (fun _ _ => rfl)) (pa_cons (pe_ix ix_list (pe_fld (pv 0) rfl) (pv 2) (fun _ _ => rfl)) pa_nil)))))
        pss_nil)))
      (pss_one (ps_ret (pv 1))))), ?_⟩
    refine s_setT (vs := [.int 0, .int 0]) (a1 v_c (a1 v_c a0)) (by decide) fun p0 hp0 => ?_
    have s0 : Same H (upd H p0 (.tup [.int 0, .int 0])) := same_new hp0
    refine s_forR (v_len (vf_weights T (Pt.mono s0) (v_var rfl)) (SqL.of (Pt.mono s0).w)) (by rw [len_w]; omega) (fun i σ H' => ∃ (p : Addr) (v : Option V), σ = [some (.ref l.p), some (.ref p), v] ∧ Same H H' ∧ H p = none ∧ SqT K H' p [.int (bp (bestOf (x.tries.take i))).1, .int (bp (bestOf (x.tries.take i))).2]) ?_ ?_ ?_
    · exact ⟨p0, none, rfl, s0, hp0, SqT.of upd_same⟩
    · rintro i σ H' hi ⟨p, v, rfl, s1, hp, ht⟩
      have hi2 : i < x.tries.length := by rw [len_w] at hi; exact hi
      obtain ⟨t, et⟩ : ∃ t, x.tries[i]? = some t := ⟨_, List.getElem?_eq_getElem hi2⟩
      have Pt1 := Pt.mono s1
      have step := best_step et (hw t (List.mem_of_getElem? et))
      refine s_if (t_and (t_v (v_eq (v_ix (vf_marks T Pt1 (v_var rfl)) (v_var rfl) (SqL.of Pt1.k) (at_z (j := i) rfl (at_k et))) v_c))
        (t_v (v_gt (v_ix (vf_weights T Pt1 (v_var rfl)) (v_var rfl) (SqL.of Pt1.w) (at_z (j := i) rfl (at_w et))) (v_ixT (v_var rfl) v_c ht (at_z (j := 0) rfl rfl))))) (fun e => ?_) (fun e => ?_)
      · rw [Bool.and_eq_true] at e
        have e1 := of_decide_eq_true e.1
        have e2 := of_decide_eq_true e.2
        rw [if_pos ⟨by omega, by omega⟩] at step
        refine s_setT (a1 (v_ix (vf_weights T Pt1 (v_var rfl)) (v_var rfl) (SqL.of Pt1.w) (at_z (j := i) rfl (at_w et))) (a1 (v_ix (vf_moments T Pt1 (v_var rfl)) (v_var rfl) (SqL.of Pt1.t) (at_z (j := i) rfl (at_m et))) a0)) (by show 2 ≤ 100; decide) fun p1 hp1 => ?_
        refine ⟨p1, some (.int (i : Int)), rfl, s1.trans (same_new hp1), s1.free hp1, ?_⟩
        rw [step]
        exact SqT.of upd_same
      · rw [if_neg (fun z => by
          have e1 : decide ((t.good : Int) = 1) = true := decide_eq_true (by omega)
          have e2 : decide (((bp (bestOf (x.tries.take i))).1 : Int) < (t.weight : Int)) = true := decide_eq_true (by omega)
          have e3 : (decide ((t.good : Int) = 1) && decide (((bp (bestOf (x.tries.take i))).1 : Int) < (t.weight : Int))) = false := e
          rw [e1, e2] at e3
          cases e3)] at step
        refine ⟨p, some (.int (i : Int)), rfl, s1, hp, ?_⟩
        rw [step]
        exact ht
    · rintro σ H' ⟨p, v, rfl, s1, hp, ht⟩
      rw [len_w, List.take_length] at ht
      exact s_ret (v_var rfl) (q H' p s1 hp ht)
end
end BC
/-! BcBoard -/
/-! The class Board: where a board stands, its plain methods. -/
namespace BC
open PySem PySem.Spec PyProof.Rows L2
local macro_rules | `(tactic| walk_at "lk") => `(tactic| (repeat (first | exact lk_here | exact rfl | refine (lk_past (by decide +kernel)).trans ?_)))
local macro_rules | `(tactic| walk_at "pt") => `(tactic| (repeat (first | exact put_here | exact rfl | refine (put_past (by decide +kernel)).trans (congrArg _ ?_))))

structure Lay where
  tl : Addr
  pl : Addr
  pc : Nat → Addr
  L : Nat → Nat → PL
/-- the fields by their values -/
def bG (t p : Addr) (a b c d : Int) : List (Str × V) := [("teams", .ref t), ("parts", .ref p), ("lift", .int a), ("tries", .int b), ("newest_lifter", .int c), ("newest_lift", .int d)]
def bF (s : Kg59.State) (nw : NW) (y : Lay) : List (Str × V) := bG y.tl y.pl (liftI s) s.count (nwI nw) (nwK nw)
structure BoardAt (CB CP : Addr) (H0 H : Hp) (b : Addr) (s : Kg59.State) (nw : NW) (y : Lay) : Prop where
  same : Same H0 H
  obj : ∃ dx, H b = some (.ins CB dx (bF s nw y))
  tl : H y.tl = some (.lst (s.lifters.map fun l => V.int l.team))
  pl : H y.pl = some (.lst [.ref (y.pc 0), .ref (y.pc 1)])
  col : ∀ k, k < 2 → H (y.pc k) = some (.lst ((List.range s.lifters.length).map fun i => V.ref (y.L k i).p))
  part : ∀ k i, k < 2 → i < s.lifters.length → PartAt CP H (y.L k i) (s.liftOf i k)
  ok : ∀ k i, k < 2 → i < s.lifters.length → (y.L k i).ok
  uniq : ∀ k i k' i' a, k < 2 → i < s.lifters.length → k' < 2 → i' < s.lifters.length → (y.L k i).has a → (y.L k' i').has a → k = k' ∧ i = i'
  off : ∀ k i a, k < 2 → i < s.lifters.length → (y.L k i).has a → a ≠ b ∧ a ≠ y.tl ∧ a ≠ y.pl ∧ a ≠ y.pc 0 ∧ a ≠ y.pc 1
  f0 : H0 b = none ∧ H0 y.tl = none ∧ H0 y.pl = none ∧ H0 (y.pc 0) = none ∧ H0 (y.pc 1) = none
  fL : ∀ k i a, k < 2 → i < s.lifters.length → (y.L k i).has a → H0 a = none
section
variable {t p : Addr} {a b c d : Int}
theorem bF_teams : (bG t p a b c d).lookup ("teams" : Str) = some (.ref t) := by unfold bG; walk_at "lk"
theorem bF_parts : (bG t p a b c d).lookup ("parts" : Str) = some (.ref p) := by unfold bG; walk_at "lk"
theorem bF_lift : (bG t p a b c d).lookup ("lift" : Str) = some (.int a) := by unfold bG; walk_at "lk"
theorem bF_tries : (bG t p a b c d).lookup ("tries" : Str) = some (.int b) := by unfold bG; walk_at "lk"
theorem bF_newest_lifter : (bG t p a b c d).lookup ("newest_lifter" : Str) = some (.int c) := by unfold bG; walk_at "lk"
theorem bF_newest_lift : (bG t p a b c d).lookup ("newest_lift" : Str) = some (.int d) := by unfold bG; walk_at "lk"
theorem bF_renew : (bG t p a b c d).lookup ("renew" : Str) = none := by unfold bG; walk_at "lk"
theorem bF_begun : (bG t p a b c d).lookup ("begun" : Str) = none := by unfold bG; walk_at "lk"
theorem bF_running : (bG t p a b c d).lookup ("running" : Str) = none := by unfold bG; walk_at "lk"
theorem bF_knows : (bG t p a b c d).lookup ("knows" : Str) = none := by unfold bG; walk_at "lk"
theorem bF_part_now : (bG t p a b c d).lookup ("part_now" : Str) = none := by unfold bG; walk_at "lk"
theorem bF_tried_last : (bG t p a b c d).lookup ("tried_last" : Str) = none := by unfold bG; walk_at "lk"
theorem bF_bar : (bG t p a b c d).lookup ("bar" : Str) = none := by unfold bG; walk_at "lk"
theorem bF_note_attempt : (bG t p a b c d).lookup ("note_attempt" : Str) = none := by unfold bG; walk_at "lk"
theorem bF_move_on : (bG t p a b c d).lookup ("move_on" : Str) = none := by unfold bG; walk_at "lk"
theorem bF_len : (bG t p a b c d).length < 1000 := by show 6 < 1000; decide
theorem put_bteams (z : Addr) : putF "teams" (.ref z) (bG t p a b c d) = bG z p a b c d := by unfold bG; walk_at "pt"
theorem put_bparts (z : Addr) : putF "parts" (.ref z) (bG t p a b c d) = bG t z a b c d := by unfold bG; walk_at "pt"
theorem put_blift (z : Int) : putF "lift" (.int z) (bG t p a b c d) = bG t p z b c d := by unfold bG; walk_at "pt"
theorem put_btries (z : Int) : putF "tries" (.int z) (bG t p a b c d) = bG t p a z c d := by unfold bG; walk_at "pt"
theorem put_bnl (z : Int) : putF "newest_lifter" (.int z) (bG t p a b c d) = bG t p a b z d := by unfold bG; walk_at "pt"
theorem put_bnk (z : Int) : putF "newest_lift" (.int z) (bG t p a b c d) = bG t p a b c z := by unfold bG; walk_at "pt"
end

section
variable {CB CP : Addr} {H0 H H' : Hp} {b : Addr} {s s' : Kg59.State} {nw nw' : NW} {y : Lay}
theorem BoardAt.mono (B : BoardAt CB CP H0 H b s nw y) (e : Same H H') : BoardAt CB CP H0 H' b s nw y := by
  obtain ⟨h1, ⟨dx, h2⟩, h3, h4, h5, h6, h7, h8, h9, h10, h11⟩ := B
  exact ⟨h1.trans e, ⟨dx, e _ _ h2⟩, e _ _ h3, e _ _ h4, fun k hk => e _ _ (h5 k hk), fun k i hk hi => (h6 k i hk hi).mono e, h7, h8, h9, h10, h11⟩
/-- one part changed -/
theorem BoardAt.part_set {k i : Nat} {x : Kg59.Lift} (B : BoardAt CB CP H0 H b s nw y) (hk : k < 2) (hi : i < s.lifters.length) (Pt : PartAt CP H' (y.L k i) x) (e : ∀ a, ¬ (y.L k i).has a → H' a = H a) :
    BoardAt CB CP H0 H' b (s.put i k x) nw y := by
  obtain ⟨h1, ⟨dx, h2⟩, h3, h4, h5, h6, h7, h8, h9, h10, h11⟩ := B
  have el : (s.put i k x).lifters.length = s.lifters.length := put_len
  have et : (s.put i k x).lifters.map (fun l => V.int l.team) = s.lifters.map fun l => V.int l.team := by
    have z := congrArg (List.map fun n : Nat => V.int n) (put_team (s := s) (i := i) (k := k) (x := x))
    rw [List.map_map, List.map_map] at z
    exact z
  have nb : ¬ (y.L k i).has b := fun z => (h9 k i _ hk hi z).1 rfl
  have nt : ¬ (y.L k i).has y.tl := fun z => (h9 k i _ hk hi z).2.1 rfl
  have np : ¬ (y.L k i).has y.pl := fun z => (h9 k i _ hk hi z).2.2.1 rfl
  have n0 : ¬ (y.L k i).has (y.pc 0) := fun z => (h9 k i _ hk hi z).2.2.2.1 rfl
  have n1 : ¬ (y.L k i).has (y.pc 1) := fun z => (h9 k i _ hk hi z).2.2.2.2 rfl
  refine ⟨fun a o q => (e a fun z => ?_).trans (h1 a o q), ⟨dx, (e b nb).trans h2⟩, by rw [et]; exact (e _ nt).trans h3, (e _ np).trans h4, fun k' hk' => ?_, fun k' i' hk' hi' => ?_, ?_, ?_, ?_, h10, ?_⟩
  · rw [h11 k i a hk hi z] at q; cases q
  · rw [el]
    have : k' = 0 ∨ k' = 1 := by omega
    rcases this with rfl | rfl
    · exact (e _ n0).trans (h5 0 (by decide))
    · exact (e _ n1).trans (h5 1 (by decide))
  · rw [el] at hi'
    by_cases c : i' = i ∧ k' = k
    · obtain ⟨rfl, rfl⟩ := c
      rw [of_put_same hk' hi']
      exact Pt
    · rw [of_put_other hk hk' c]
      refine (h6 k' i' hk' hi').same fun a ha => e a fun z => c ?_
      obtain ⟨e1, e2⟩ := h8 k i k' i' a hk hi hk' hi' z ha
      exact ⟨e2.symm, e1.symm⟩
  · rw [el]; exact h7
  · rw [el]; exact h8
  · rw [el]; exact h9
  · rw [el]; exact h11
/-- the board's own fields changed -/
theorem BoardAt.obj_set {dx : Addr} (B : BoardAt CB CP H0 H b s nw y) (e : s'.lifters = s.lifters) : BoardAt CB CP H0 (upd H b (.ins CB dx (bF s' nw' y))) b s' nw' y := by
  obtain ⟨h1, ⟨dx', h2⟩, h3, h4, h5, h6, h7, h8, h9, h10, h11⟩ := B
  have el : ∀ i k, s'.liftOf i k = s.liftOf i k := fun i k => by unfold Kg59.State.liftOf; rw [e]
  refine ⟨fun a o q => ?_, ⟨dx, upd_same⟩, ?_, ?_, fun k hk => ?_, fun k i hk hi => ?_, ?_, ?_, ?_, h10, ?_⟩
  · rw [upd_ne (ne_of_none q h10.1)]; exact h1 a o q
  · rw [upd_ne (ne_of h3 h2 (by intro z; cases z)), e]; exact h3
  · rw [upd_ne (ne_of h4 h2 (by intro z; cases z))]; exact h4
  · rw [upd_ne (ne_of (h5 k hk) h2 (by intro z; cases z)), e]; exact h5 k hk
  · rw [el]
    rw [e] at hi
    exact (h6 k i hk hi).same fun a ha => upd_ne (h9 k i a hk hi ha).1
  · rw [e]; exact h7
  · rw [e]; exact h8
  · rw [e]; exact h9
  · rw [e]; exact h11
/-- an object of the frame changed -/
theorem BoardAt.frame_set {a : Addr} {o o' : HO} (B : BoardAt CB CP H0 H b s nw y) (h0 : H0 a = some o) : BoardAt CB CP (upd H0 a o') (upd H a o') b s nw y := by
  obtain ⟨h1, ⟨dx, h2⟩, h3, h4, h5, h6, h7, h8, h9, h10, h11⟩ := B
  have na : ∀ c, H0 c = none → c ≠ a := fun c q z => by rw [z, h0] at q; cases q
  have up : ∀ c, H0 c = none → upd H a o' c = H c := fun c q => upd_ne (na c q)
  have up0 : ∀ c, H0 c = none → upd H0 a o' c = none := fun c q => (upd_ne (na c q)).trans q
  refine ⟨fun c u q => ?_, ⟨dx, (up _ h10.1).trans h2⟩, (up _ h10.2.1).trans h3, (up _ h10.2.2.1).trans h4, fun k hk => ?_, fun k i hk hi => (h6 k i hk hi).same fun c hc => up c (h11 k i c hk hi hc), h7, h8, h9, ⟨up0 _ h10.1, up0 _ h10.2.1, up0 _ h10.2.2.1, up0 _ h10.2.2.2.1, up0 _ h10.2.2.2.2⟩, fun k i c hk hi hc => up0 c (h11 k i c hk hi hc)⟩
  · by_cases z : c = a
    · subst z
      rw [upd_same] at q ⊢
      exact q
    · rw [upd_ne z] at q ⊢
      exact h1 c u q
  · have : k = 0 ∨ k = 1 := by omega
    rcases this with rfl | rfl
    · exact (up _ h10.2.2.2.1).trans (h5 0 (by decide))
    · exact (up _ h10.2.2.2.2).trans (h5 1 (by decide))
/-- a new object, told to the frame -/
theorem BoardAt.frame_new {a : Addr} {o : HO} (B : BoardAt CB CP H0 H b s nw y) (h0 : H a = none) : BoardAt CB CP (upd H0 a o) (upd H a o) b s nw y := by
  have B2 := B.mono (same_new (o := o) h0)
  obtain ⟨h1, ⟨dx, h2⟩, h3, h4, h5, h6, h7, h8, h9, h10, h11⟩ := B2
  have na : ∀ c u, H c = some u → c ≠ a := fun c u q z => by rw [z, h0] at q; cases q
  have up0 : ∀ c u, H c = some u → H0 c = none → upd H0 a o c = none := fun c u q f => (upd_ne (na c u q)).trans f
  have has_some : ∀ k i c, k < 2 → i < s.lifters.length → (y.L k i).has c → ∃ u, H c = some u := fun k i c hk hi hc => by
    obtain ⟨⟨d, q1⟩, q2, q3, q4⟩ := B.part k i hk hi
    rcases hc with rfl | rfl | rfl | rfl
    · exact ⟨_, q1⟩
    · exact ⟨_, q2⟩
    · exact ⟨_, q3⟩
    · exact ⟨_, q4⟩
  obtain ⟨db, hb⟩ := B.obj
  refine ⟨fun c u q => ?_, ⟨dx, h2⟩, h3, h4, h5, h6, h7, h8, h9, ⟨up0 _ _ hb h10.1, up0 _ _ B.tl h10.2.1, up0 _ _ B.pl h10.2.2.1, up0 _ _ (B.col 0 (by decide)) h10.2.2.2.1, up0 _ _ (B.col 1 (by decide)) h10.2.2.2.2⟩, fun k i c hk hi hc => ?_⟩
  · by_cases z : c = a
    · subst z
      rw [upd_same] at q ⊢
      exact q
    · rw [upd_ne z] at q
      exact h1 c u q
  · obtain ⟨u, hu⟩ := has_some k i c hk hi hc
    exact up0 c u hu (h11 k i c hk hi hc)
end

/-! ### promises -/
def spBegun (A : Adr) : Sp := fun vs H Q _ => ∃ H0 b s nw y, vs = [.ref b] ∧ BoardAt A.Board A.Part H0 H b s nw y ∧ Q (.bl s.begun) H
def spRunning (A : Adr) : Sp := fun vs H Q _ => ∃ H0 b s nw y, vs = [.ref b] ∧ BoardAt A.Board A.Part H0 H b s nw y ∧ Q (.bl (s.begun && !decide (s.lift = 2))) H
def spKnows (A : Adr) : Sp := fun vs H Q _ => ∃ H0 b s nw y i, vs = [.ref b, .int i] ∧ BoardAt A.Board A.Part H0 H b s nw y ∧ Q (.bl (Kg59.isLifter s i)) H
def spPartNow (A : Adr) : Sp := fun vs H Q _ => ∃ H0 b s nw y, ∃ i : Nat, vs = [.ref b, .int i] ∧ BoardAt A.Board A.Part H0 H b s nw y ∧ s.begun = true ∧ s.lift < 2 ∧ i < s.lifters.length ∧ Q (.ref (y.L s.lift i).p) H
def spTriedLast (A : Adr) : Sp := fun vs H Q _ => ∃ H0 b s nw y, vs = [.ref b] ∧ BoardAt A.Board A.Part H0 H b s nw y ∧ Q (.int (optI (triedLast s nw))) H
def spBar (A : Adr) : Sp := fun vs H Q _ => ∃ H0 b s nw y, vs = [.ref b] ∧ BoardAt A.Board A.Part H0 H b s nw y ∧ s.begun = true ∧ s.lift < 2 ∧ (∀ j, triedLast s nw = some j → j < s.lifters.length) ∧ Q (.int (barOf s nw)) H
def spNoteAttempt (A : Adr) : Sp := fun vs H Q _ => ∃ H0 b s nw y, ∃ i g : Nat, vs = [.ref b, .int i, .int g] ∧ BoardAt A.Board A.Part H0 H b s nw y ∧ s.begun = true ∧ s.lift < 2 ∧ i < s.lifters.length ∧ (s.liftOf i s.lift).tries.length ≤ 3 ∧
  ∀ H', BoardAt A.Board A.Part H0 H' b (noted s i g) (some (i, s.lift)) y → Q .non H'
def spMoveOn (A : Adr) : Sp := fun vs H Q _ => ∃ H0 b s nw y, vs = [.ref b] ∧ BoardAt A.Board A.Part H0 H b s nw y ∧
  ∀ H', (∀ s' : Kg59.State, s'.lifters = s.lifters → s'.count = s.count → liftI s' = liftI s + 1 → BoardAt A.Board A.Part H0 H' b s' nw y) → Q .non H'

section
variable {P : Program} {w : World} {K : PySem.W.Frag} {mg : Str → Option Value} {base : Heap} {A : Adr}
variable {σ : L2.St} {H0 H H' : Hp} {te tb : TE} {b : Addr} {s : Kg59.State} {nw : NW} {y : Lay} {D : Ends}

/-! ### fields and methods by value -/
theorem bf_teams (T : Txt K mg A) (B : BoardAt A.Board A.Part H0 H b s nw y) (h : Val te σ H (.ref b)) : Val (tFld K te "teams") σ H (.ref y.tl) := by
  obtain ⟨dx, hp⟩ := B.obj
  exact val_fld h hp T.cl_Board T.n_teams bF_teams
theorem bf_parts (T : Txt K mg A) (B : BoardAt A.Board A.Part H0 H b s nw y) (h : Val te σ H (.ref b)) : Val (tFld K te "parts") σ H (.ref y.pl) := by
  obtain ⟨dx, hp⟩ := B.obj
  exact val_fld h hp T.cl_Board T.n_parts bF_parts
theorem bf_lift (T : Txt K mg A) (B : BoardAt A.Board A.Part H0 H b s nw y) (h : Val te σ H (.ref b)) : Val (tFld K te "lift") σ H (.int (liftI s)) := by
  obtain ⟨dx, hp⟩ := B.obj
  exact val_fld h hp T.cl_Board T.n_lift bF_lift
theorem bf_tries (T : Txt K mg A) (B : BoardAt A.Board A.Part H0 H b s nw y) (h : Val te σ H (.ref b)) : Val (tFld K te "tries") σ H (.int s.count) := by
  obtain ⟨dx, hp⟩ := B.obj
  exact val_fld h hp T.cl_Board T.n_tries bF_tries
theorem bf_nl (T : Txt K mg A) (B : BoardAt A.Board A.Part H0 H b s nw y) (h : Val te σ H (.ref b)) : Val (tFld K te "newest_lifter") σ H (.int (nwI nw)) := by
  obtain ⟨dx, hp⟩ := B.obj
  exact val_fld h hp T.cl_Board T.n_newest_lifter bF_newest_lifter
theorem bf_nk (T : Txt K mg A) (B : BoardAt A.Board A.Part H0 H b s nw y) (h : Val te σ H (.ref b)) : Val (tFld K te "newest_lift") σ H (.int (nwK nw)) := by
  obtain ⟨dx, hp⟩ := B.obj
  exact val_fld h hp T.cl_Board T.n_newest_lift bF_newest_lift
theorem col_at {k i : Nat} (hi : i < s.lifters.length) : ((List.range s.lifters.length).map fun i => V.ref (y.L k i).p)[i]? = some (.ref (y.L k i).p) := by
  rw [List.getElem?_map, List.getElem?_range hi]; rfl
theorem pcs_at {k : Nat} (hk : k < 2) : ([V.ref (y.pc 0), V.ref (y.pc 1)])[k]? = some (.ref (y.pc k)) := by
  have : k = 0 ∨ k = 1 := by omega
  rcases this with rfl | rfl <;> rfl
/-- board.parts[k][i] -/
theorem v_part {k i : Nat} {tk ti : TE} {zk zi : Int} (T : Txt K mg A) (B : BoardAt A.Board A.Part H0 H b s nw y) (h : Val te σ H (.ref b)) (hk : k < 2) (hi : i < s.lifters.length) (vk : Val tk σ H (.int zk)) (vi : Val ti σ H (.int zi)) (ek : zk = (k : Int)) (ei : zi = (i : Int)) :
    Val (tOp (rIxL K) (tOp (rIxL K) (tFld K te "parts") tk) ti) σ H (.ref (y.L k i).p) :=
  v_ix (v_ix (bf_parts T B h) vk (SqL.of B.pl) (at_z ek (pcs_at hk))) vi (SqL.of (B.col k hk)) (at_z ei (col_at hi))
theorem vb_begun (B : BoardAt A.Board A.Part H0 H b s nw y) (h : Val te σ H (.ref b)) : Val (tMeth A.Board "begun" (spBegun A) [] E0 te tNil) σ H (.bl s.begun) := by
  obtain ⟨dx, hp⟩ := B.obj
  intro Q q
  exact h _ ⟨b, dx, _, rfl, hp, bF_begun, H0, b, s, nw, y, rfl, B, q⟩
theorem vb_running (B : BoardAt A.Board A.Part H0 H b s nw y) (h : Val te σ H (.ref b)) : Val (tMeth A.Board "running" (spRunning A) [] E0 te tNil) σ H (.bl (s.begun && !decide (s.lift = 2))) := by
  obtain ⟨dx, hp⟩ := B.obj
  intro Q q
  exact h _ ⟨b, dx, _, rfl, hp, bF_running, H0, b, s, nw, y, rfl, B, q⟩
theorem vb_knows {i : Int} (B : BoardAt A.Board A.Part H0 H b s nw y) (h : Val te σ H (.ref b)) (k : Val tb σ H (.int i)) : Val (tMeth A.Board "knows" (spKnows A) [] E0 te (tCons tb tNil)) σ H (.bl (Kg59.isLifter s i)) := by
  obtain ⟨dx, hp⟩ := B.obj
  intro Q q
  exact h _ ⟨b, dx, _, rfl, hp, bF_knows, k _ ⟨H0, b, s, nw, y, i, rfl, B, q⟩⟩
theorem vb_part_now {i : Nat} (B : BoardAt A.Board A.Part H0 H b s nw y) (h : Val te σ H (.ref b)) (k : Val tb σ H (.int i)) (hb : s.begun = true) (hl : s.lift < 2) (hi : i < s.lifters.length) :
    Val (tMeth A.Board "part_now" (spPartNow A) [] E0 te (tCons tb tNil)) σ H (.ref (y.L s.lift i).p) := by
  obtain ⟨dx, hp⟩ := B.obj
  intro Q q
  exact h _ ⟨b, dx, _, rfl, hp, bF_part_now, k _ ⟨H0, b, s, nw, y, i, rfl, B, hb, hl, hi, q⟩⟩
theorem vb_tried_last (B : BoardAt A.Board A.Part H0 H b s nw y) (h : Val te σ H (.ref b)) : Val (tMeth A.Board "tried_last" (spTriedLast A) [] E0 te tNil) σ H (.int (optI (triedLast s nw))) := by
  obtain ⟨dx, hp⟩ := B.obj
  intro Q q
  exact h _ ⟨b, dx, _, rfl, hp, bF_tried_last, H0, b, s, nw, y, rfl, B, q⟩
theorem vb_bar (B : BoardAt A.Board A.Part H0 H b s nw y) (h : Val te σ H (.ref b)) (hb : s.begun = true) (hl : s.lift < 2) (hj : ∀ j, triedLast s nw = some j → j < s.lifters.length) :
    Val (tMeth A.Board "bar" (spBar A) [] E0 te tNil) σ H (.int (barOf s nw)) := by
  obtain ⟨dx, hp⟩ := B.obj
  intro Q q
  exact h _ ⟨b, dx, _, rfl, hp, bF_bar, H0, b, s, nw, y, rfl, B, hb, hl, hj, q⟩

/-! ### the bodies -/
theorem ok_begun (T : Txt K mg A) : FnOk P w K mg base CX0 1 A.f_begun A.d_begun ["self"] (spBegun A) := by
  refine T.F_begun.ok sc_begun (fun vs H Q E h => ?_) (fun cdv A' outer s H vs Q E hr h => ?_)
  · obtain ⟨H0, b, s, nw, y, rfl, _⟩ := h; rfl
  · obtain ⟨H0, b, s, nw, y, rfl, B, q⟩ := h
    refine ⟨_, (pss_one (ps_ret (pe_cmpR op_ne (pe_fld (pv 0) rfl) (pe_cst rfl T.c_WAITING) (nomark _)))), ?_⟩
    refine s_ret (v_is (v_ne (bf_lift T B (v_var rfl)) v_c) ?_) q
    refine congrArg V.bl ?_
    rw [decide_eq_decide.mpr (liftI_wait s)]
    exact (by decide : ∀ z : Bool, (!decide (z = false)) = z) s.begun
theorem ok_running (T : Txt K mg A) : FnOk P w K mg base CX0 1 A.f_running A.d_running ["self"] (spRunning A) := by
  refine T.F_running.ok sc_running (fun vs H Q E h => ?_) (fun cdv A' outer s H vs Q E hr h => ?_)
  · obtain ⟨H0, b, s, nw, y, rfl, _⟩ := h; rfl
  · obtain ⟨H0, b, s, nw, y, rfl, B, q⟩ := h
    refine ⟨_, (pss_one (ps_ret (pe_and (pe_cmpR op_ne (pe_fld (pv 0) rfl) (pe_cst rfl T.c_WAITING) (nomark _)) (pe_one (pe_cmpR op_ne (pe_fld (pv 0) rfl) (pe_cst rfl T.c_OVER) (nomark _)))))), ?_⟩
    exact s_ret (v_is (v_and (v_ne (bf_lift T B (v_var rfl)) v_c) (v_ne (bf_lift T B (v_var rfl)) v_c)) (congrArg V.bl (liftI_over s))) q
theorem ok_knows (T : Txt K mg A) : FnOk P w K mg base CX0 1 A.f_knows A.d_knows ["self", "lifter"] (spKnows A) := by
  refine T.F_knows.ok sc_knows (fun vs H Q E h => ?_) (fun cdv A' outer s H vs Q E hr h => ?_)
  · obtain ⟨H0, b, s, nw, y, i, rfl, _⟩ := h; rfl
  · obtain ⟨H0, b, s, nw, y, i, rfl, B, q⟩ := h
    refine ⟨_, (pss_one (ps_ret (pe_and (pe_cmpR op_le pe_int (pv 1) (nomark _)) (pe_one (pe_cmpR op_lt (pv 1) (pe_callB call_len_seq (by rfl) T.b_len PySem.boot_len (pa_cons (pe_fld (pv 0) rfl) pa_nil)) (nomark _)))))), ?_⟩
    refine s_ret (v_and (v_le v_c (v_var rfl)) (v_lt (v_var rfl) (v_len (bf_teams T B (v_var rfl)) (SqL.of B.tl)))) ?_
    rw [List.length_map]
    exact q
theorem ok_part_now (T : Txt K mg A) : FnOk P w K mg base CX0 1 A.f_part_now A.d_part_now ["self", "lifter"] (spPartNow A) := by
  refine T.F_part_now.ok sc_part_now (fun vs H Q E h => ?_) (fun cdv A' outer s H vs Q E hr h => ?_)
  · obtain ⟨H0, b, s, nw, y, i, rfl, _⟩ := h; rfl
  · obtain ⟨H0, b, s, nw, y, i, rfl, B, hb, hl, hi, q⟩ := h
    refine ⟨_, (pss_one (ps_ret (pe_ix ix_list (pe_ix ix_list (pe_fld (pv 0) rfl) (pe_fld (pv 0) rfl) (fun _ _ => rfl)) (pv 1) (fun _ _ => rfl)))), ?_⟩
    exact s_ret (v_part T B (v_var rfl) hl hi (bf_lift T B (v_var rfl)) (v_var rfl) (liftI_on hb) rfl) q
theorem ok_tried_last (T : Txt K mg A) : FnOk P w K mg base CX0 1 A.f_tried_last A.d_tried_last ["self"] (spTriedLast A) := by
  refine T.F_tried_last.ok sc_tried_last (fun vs H Q E h => ?_) (fun cdv A' outer s H vs Q E hr h => ?_)
  · obtain ⟨H0, b, s, nw, y, rfl, _⟩ := h; rfl
  · obtain ⟨H0, b, s, nw, y, rfl, B, q⟩ := h
    refine ⟨_, (pss_cons (ps_if (pt_cmpR op_eq (pe_fld (pv 0) rfl) (pe_fld (pv 0) rfl) (nomark _))
      (pss_one (ps_ret (pe_fld (pv 0) rfl)))
      pss_nil)
      (pss_one (ps_ret (pe_cst rfl T.c_NOBODY)))), ?_⟩
    rw [← tried_int] at q
    refine s_if (t_v (v_eq (bf_nk T B (v_var rfl)) (bf_lift T B (v_var rfl)))) (fun e => s_ret (bf_nl T B (v_var rfl)) ?_) (fun e => ?_)
    · rw [if_pos (of_decide_eq_true e)] at q; exact q
    · rw [if_neg (of_decide_eq_false e)] at q
      exact q
theorem ok_bar (T : Txt K mg A) : FnOk P w K mg base CX0 3 A.f_bar A.d_bar ["self"] (spBar A) := by
  refine T.F_bar.ok sc_bar (fun vs H Q E h => ?_) (fun cdv A' outer s H vs Q E hr h => ?_)
  · obtain ⟨H0, b, s, nw, y, rfl, _⟩ := h; rfl
  · obtain ⟨H0, b, s, nw, y, rfl, B, hb, hl, hj, q⟩ := h
    refine ⟨_, (pss_cons (ps_set (i := 1) sc_bar.nd rfl (Or.inl rfl) (pe_meth0 (pv 0) T.cl_Board T.m_tried_last (ok_tried_last T) (hr.mono (by decide)) (b_tried_last T) .nil pass0))
      (pss_cons (ps_if (pt_cmpR op_eq (pv 1) (pe_cst rfl T.c_NOBODY) (nomark _))
      (pss_one (ps_ret pe_int))
      pss_nil)
      (pss_one (ps_ret (pe_meth0 (pe_meth (pv 0) T.cl_Board T.m_part_now (ok_part_now T) (hr.mono (by decide)) (b_part_now T) .nil pass0 (pa_cons (pv 1) pa_nil)) T.cl_Part T.m_last_weight (ok_last_weight T) hr (b_last_weight T) .nil pass0))))), ?_⟩
    refine s_set (vb_tried_last B (v_var rfl)) ?_
    unfold barOf at q
    cases c : triedLast s nw with
    | none =>
      rw [c] at q
      refine s_if (t_v (v_eq (v_var rfl) v_c)) (fun e => s_ret v_c q) (fun e => ?_)
      exact absurd (of_decide_eq_false e) (fun z => z rfl)
    | some j =>
      rw [c] at q
      have hjl := hj j c
      refine s_if (t_v (v_eq (v_var rfl) v_c)) (fun e => ?_) (fun e => ?_)
      · have e1 : (j : Int) = -1 := of_decide_eq_true e
        omega
      · exact s_ret (vm_lastW (B.part s.lift j hl hjl) (vb_part_now B (v_var rfl) (v_var (v := .int j) rfl) hb hl hjl)) q
theorem ok_move_on (T : Txt K mg A) : FnOk P w K mg base CX0 1 A.f_move_on A.d_move_on ["self"] (spMoveOn A) := by
  refine T.F_move_on.ok sc_move_on (fun vs H Q E h => ?_) (fun cdv A' outer s H vs Q E hr h => ?_)
  · obtain ⟨H0, b, s, nw, y, rfl, _⟩ := h; rfl
  · obtain ⟨H0, b, s, nw, y, rfl, B, q⟩ := h
    refine ⟨_, (pss_one (ps_fldaug (pv 0) pe_int in_add)), ?_⟩
    obtain ⟨dx, hp⟩ := B.obj
    refine st_aug (z := .int (liftI s + 1)) (v_var rfl) hp T.cl_Board T.n_lift bF_lift v_c (fun Q q => ⟨_, _, rfl, rfl, q⟩) bF_len ?_
    refine q _ fun s' e1 e2 e3 => ?_
    have z := B.obj_set (dx := dx) (nw' := nw) e1
    unfold bF at z ⊢
    rw [e2, e3] at z
    rw [put_blift]
    exact z
theorem ok_note_attempt (T : Txt K mg A) : FnOk P w K mg base CX0 5 A.f_note_attempt A.d_note_attempt ["self", "lifter", "mark"] (spNoteAttempt A) := by
  refine T.F_note_attempt.ok sc_note_attempt (fun vs H Q E h => ?_) (fun cdv A' outer s H vs Q E hr h => ?_)
  · obtain ⟨H0, b, s, nw, y, i, g, rfl, _⟩ := h; rfl
  · obtain ⟨H0, b, s, nw, y, i, g, rfl, B, hb, hl, hi, h3, q⟩ := h
    refine ⟨_, (pss_cons (ps_fldaug (pv 0) pe_int in_add)
      (pss_cons (ps_expr (pe_meth (pe_meth (pv 0) T.cl_Board T.m_part_now (ok_part_now T) (hr.mono (by decide)) (b_part_now T) .nil pass0 (pa_cons (pv 1) pa_nil)) T.cl_Part T.m_take (ok_take T) hr (b_take T) .nil pass0 (pa_cons (pv 2) (pa_cons (pe_fld (pv 0) rfl) pa_nil))))
      (pss_cons (ps_fld (pv 0) (pv 1) rfl)
      (pss_one (ps_fld (pv 0) (pe_fld (pv 0) rfl) rfl))))), ?_⟩
    obtain ⟨dx, hp⟩ := B.obj
    refine st_aug (z := .int ((s.count + 1 : Nat) : Int)) (v_var rfl) hp T.cl_Board T.n_tries bF_tries v_c (fun Q q => ⟨_, _, rfl, rfl, q⟩) bF_len ?_
    have B1 : BoardAt A.Board A.Part H0 (upd H b (.ins A.Board dx (putF "tries" (.int ((s.count + 1 : Nat) : Int)) (bF s nw y)))) b { s with count := s.count + 1 } nw y := by
      have z := B.obj_set (s' := { s with count := s.count + 1 }) (nw' := nw) (dx := dx) rfl
      unfold bF at z ⊢
      rw [put_btries]
      exact z
    generalize upd H b (.ins A.Board dx (putF "tries" (.int ((s.count + 1 : Nat) : Int)) (bF s nw y))) = H1 at B1 ⊢
    have P1 := B1.part s.lift i hl hi
    obtain ⟨dp, hpp⟩ := P1.obj
    refine vb_part_now B1 (v_var rfl) (v_var (v := .int i) rfl) hb hl hi _ ?_
    refine ⟨_, dp, _, rfl, hpp, pF_take, ?_⟩
    refine v_var rfl _ (bf_tries T B1 (v_var rfl) _ ?_)
    refine ⟨_, _, g, s.count, rfl, P1, B1.ok s.lift i hl hi, h3, fun H2 P2 k2 => ?_⟩
    have B2 := B1.part_set hl hi P2 k2
    obtain ⟨d2, hp2⟩ := B2.obj
    refine st_fld (v_var rfl) (v_var rfl) hp2 T.cl_Board T.n_newest_lifter bF_len ?_
    refine st_fld (y := .int s.lift) (v_is (val_fld (v_var rfl) upd_same T.cl_Board T.n_lift (v := .int (liftI s)) ?_) (by rw [liftI_on hb])) (v_var rfl) upd_same T.cl_Board T.n_newest_lift ?_ ?_
    · unfold bF
      rw [put_bnl]
      exact bF_lift
    · unfold bF
      rw [put_bnl]
      exact bF_len
    · rw [upd_upd]
      refine q _ ?_
      have z := B2.obj_set (s' := noted s i g) (nw' := some (i, s.lift)) (dx := d2) rfl
      unfold bF at z ⊢
      rw [put_bnl, put_bnk]
      exact z
end
end BC
/-! BcRenew -/
/-! A board made anew. -/
namespace BC
open PySem PySem.Spec PyProof.Rows L2
local macro_rules | `(tactic| walk_at "pt") => `(tactic| (repeat (first | exact put_here | exact rfl | refine (put_past (by decide +kernel)).trans (congrArg _ ?_))))

def spRenew (K : PySem.W.Frag) (A : Adr) : Sp := fun vs H Q _ => ∃ (H0 : Hp) (p dx a : Addr) (fs : List (Str × V)) (ns : List Int), vs = [.ref p, .ref a] ∧ Same H0 H ∧ H0 p = none ∧ H p = some (.ins A.Board dx fs) ∧ SqL K H a (ns.map V.int) ∧ ns.length ≤ 24 ∧ (∀ z ∈ ns, 0 ≤ z) ∧
  (fs = [] ∨ ∃ t l i j k n, fs = bG t l i j k n) ∧
  ∀ H' y, BoardAt A.Board A.Part H0 H' p (fresh ns) none y → Q .non H'
def spBoardInit (A : Adr) : Sp := fun vs H Q _ => ∃ (H0 : Hp) (p dx : Addr), vs = [.ref p] ∧ Same H0 H ∧ H0 p = none ∧ H p = some (.ins A.Board dx []) ∧
  ∀ H' y, BoardAt A.Board A.Part H0 H' p (fresh []) none y → Q .non H'

theorem PartAt.tracked {C : Addr} {H : Hp} {l : PL} {x : Kg59.Lift} (Pt : PartAt C H l x) {a : Addr} (h : l.has a) : ∃ u, H a = some u := by
  obtain ⟨⟨d, q1⟩, q2, q3, q4⟩ := Pt
  rcases h with rfl | rfl | rfl | rfl
  · exact ⟨_, q1⟩
  · exact ⟨_, q2⟩
  · exact ⟨_, q3⟩
  · exact ⟨_, q4⟩
theorem putF_len (f : Str) (v : V) : ∀ fs : List (Str × V), (putF f v fs).length ≤ fs.length + 1
  | [] => Nat.le_refl _
  | (g, x) :: r => by
    by_cases e : g = f
    · rw [e, put_here]; exact Nat.le_succ _
    · rw [put_past e]; exact Nat.succ_le_succ (putF_len f v r)
theorem all_fields {fs : List (Str × V)} (h : fs = [] ∨ ∃ t l i j k n, fs = bG t l i j k n) (t l : Addr) (i j k n : Int) :
    putF "newest_lift" (.int n) (putF "newest_lifter" (.int k) (putF "tries" (.int j) (putF "lift" (.int i) (putF "parts" (.ref l) (putF "teams" (.ref t) fs))))) = bG t l i j k n := by
  rcases h with rfl | ⟨t', l', i', j', k', n', rfl⟩
  · have e1 : putF "teams" (.ref t) [] = [(("teams" : Str), V.ref t)] := rfl
    have e2 : putF "parts" (.ref l) [(("teams" : Str), V.ref t)] = [(("teams" : Str), V.ref t), ("parts", .ref l)] := by walk_at "pt"
    have e3 : putF "lift" (.int i) [(("teams" : Str), V.ref t), ("parts", .ref l)] = [(("teams" : Str), V.ref t), ("parts", .ref l), ("lift", .int i)] := by walk_at "pt"
    have e4 : putF "tries" (.int j) [(("teams" : Str), V.ref t), ("parts", .ref l), ("lift", .int i)] = [(("teams" : Str), V.ref t), ("parts", .ref l), ("lift", .int i), ("tries", .int j)] := by walk_at "pt"
    have e5 : putF "newest_lifter" (.int k) [(("teams" : Str), V.ref t), ("parts", .ref l), ("lift", .int i), ("tries", .int j)] = [(("teams" : Str), V.ref t), ("parts", .ref l), ("lift", .int i), ("tries", .int j), ("newest_lifter", .int k)] := by walk_at "pt"
    rw [e1, e2, e3, e4, e5]
    unfold bG
    walk_at "pt"
  · rw [put_bteams, put_bparts, put_blift, put_btries, put_bnl, put_bnk]

section
variable {P : Program} {w : World} {K : PySem.W.Frag} {mg : Str → Option Value} {base : Heap} {A : Adr}

/-- [Part() for team in teams] -/
theorem lc_parts {C a : Addr} {xs : List V} {σ : L2.St} {H1 : Hp} {Q : VK} {v0 v : Option V} (hσ : σ = [v0, some (.ref a), v]) (hS : SqL K H1 a xs) (hn : xs.length ≤ 24)
    (q : ∀ (D : Addr) (H2 : Hp) (L : Nat → PL), Same H1 H2 → H1 D = none → H2 D = some (.lst ((List.range xs.length).map fun i => V.ref (L i).p)) → (∀ i, i < xs.length → PartAt C H2 (L i) ⟨[], 0, 0⟩) → (∀ i, i < xs.length → (L i).ok) →
      (∀ i j c, i < xs.length → j < xs.length → (L i).has c → (L j).has c → i = j) → (∀ i c, i < xs.length → (L i).has c → H1 c = none ∧ c ≠ D) → Q (.ref D) H2) :
    tLc (iList K (tVar 1)) (gName 2) tYes (tMake C (spPartInit C) [] E0 tNil) [2] σ H1 Q := by
  subst hσ
  refine ⟨_, rfl, a, rfl, ⟨_, hS⟩, fun D hD => lc_list (K := K) (a := a) (xs := xs) (fun i H => ∃ L : Nat → PL, Same H1 H ∧ H D = some (.lst ((List.range i).map fun i => V.ref (L i).p)) ∧ (∀ j, j < i → PartAt C H (L j) ⟨[], 0, 0⟩) ∧ (∀ j, j < i → (L j).ok) ∧
      (∀ j k c, j < i → k < i → (L j).has c → (L k).has c → j = k) ∧ (∀ j c, j < i → (L j).has c → H1 c = none ∧ c ≠ D)) ?_ ?_ ?_ ?_⟩
  · exact ⟨fun _ => ⟨0, 0, 0, 0⟩, same_new hD, upd_same, fun j z => absurd z (Nat.not_lt_zero _), fun j z => absurd z (Nat.not_lt_zero _), fun j _ _ z => absurd z (Nat.not_lt_zero _), fun j _ z => absurd z (Nat.not_lt_zero _)⟩
  · rintro i H _ ⟨L, s1, _⟩
    exact s1.seq hS
  · rintro i x H hx ⟨L, s1, hDl, hP, hok, hu, hf⟩
    refine ⟨rfl, ?_⟩
    unfold tYes
    dsimp only
    rw [if_pos rfl]
    intro p dx np ndx ne
    refine ⟨p, dx, rfl, upd_same, fun H' l elp lok hw hk ht Pt kp => ⟨rfl, (List.range i).map fun i => V.ref (L i).p, ?_, ?_, ?_⟩⟩
    · have sm : Same H H' := Same.made np ndx kp
      exact sm _ _ hDl
    · rw [List.length_map, List.length_range]
      have := (List.getElem?_eq_some_iff.mp hx).1
      exact Nat.lt_of_lt_of_le (show i < 100000 by omega) (by decide)
    · have sm : Same H H' := Same.made np ndx kp
      have lf : ∀ c, l.has c → H c = none := fun c hc => by
        have au : ∀ z, (upd (upd H dx (.own p)) p (.ins C dx [])) z = none → H z = none := fun z e => by
          have n1 : z ≠ p := fun k => by rw [k, upd_same] at e; cases e
          rw [upd_ne n1] at e
          have n2 : z ≠ dx := fun k => by rw [k, upd_same] at e; cases e
          rw [upd_ne n2] at e
          exact e
        rcases hc with rfl | rfl | rfl | rfl
        · rw [elp]; exact np
        · exact au _ hw
        · exact au _ hk
        · exact au _ ht
      have lD : ∀ c, l.has c → c ≠ D := fun c hc z => by
        have e := lf c hc
        rw [z, hDl] at e
        cases e
      refine ⟨fun j => if j = i then l else L j, fun b o e => ?_, ?_, ?_, ?_, ?_, ?_⟩
      · rw [upd_ne (ne_of_none e hD)]
        exact sm _ _ (s1 b o e)
      · rw [upd_same, List.range_succ, List.map_append]
        refine congrArg (fun z => some (HO.lst z)) ?_
        have e1 : (List.range i).map (fun i => V.ref (L i).p) = (List.range i).map fun j => V.ref (if j = i then l else L j).p := by
          refine List.map_congr_left fun j hj => ?_
          rw [if_neg (Nat.ne_of_lt (List.mem_range.mp hj))]
        rw [e1]
        refine congrArg _ ?_
        show [V.ref p] = [V.ref (if i = i then l else L i).p]
        rw [if_pos rfl, elp]
      · intro j hj
        show PartAt C _ (if j = i then l else L j) _
        by_cases e : j = i
        · rw [if_pos e]
          exact Pt.same fun c hc => upd_ne (lD c hc)
        · rw [if_neg e]
          have hj2 : j < i := by omega
          exact ((hP j hj2).mono sm).same fun c hc => upd_ne (hf j c hj2 hc).2
      · intro j hj
        show (if j = i then l else L j).ok
        by_cases e : j = i
        · rw [if_pos e]; exact lok
        · rw [if_neg e]; exact hok j (by omega)
      · intro j k c hj hk' h1 h2
        have h1 : (if j = i then l else L j).has c := h1
        have h2 : (if k = i then l else L k).has c := h2
        by_cases e1 : j = i
        · by_cases e2 : k = i
          · omega
          · rw [if_pos e1] at h1
            rw [if_neg e2] at h2
            obtain ⟨u, hu2⟩ := (hP k (by omega)).tracked h2
            rw [lf c h1] at hu2
            cases hu2
        · by_cases e2 : k = i
          · rw [if_neg e1] at h1
            rw [if_pos e2] at h2
            obtain ⟨u, hu2⟩ := (hP j (by omega)).tracked h1
            rw [lf c h2] at hu2
            cases hu2
          · rw [if_neg e1] at h1
            rw [if_neg e2] at h2
            exact hu j k c (by omega) (by omega) h1 h2
      · intro j c hj h1
        have h1 : (if j = i then l else L j).has c := h1
        by_cases e1 : j = i
        · rw [if_pos e1] at h1
          exact ⟨s1.free (lf c h1), lD c h1⟩
        · rw [if_neg e1] at h1
          exact hf j c (by omega) h1
  · rintro H ⟨L, s1, hDl, hP, hok, hu, hf⟩
    exact q D H L s1 hD hDl hP hok hu hf

/-- o.f = [x, y], the readings of x and y ahead -/
theorem u_fld2 {ta t1 t2 : TE} {f : Str} {D : Ends} {σ : L2.St} {H : Hp} (h : t1 σ H fun x H1 => t2 σ H1 fun y H2 => [x, y].length ≤ sizeLine ∧ ∀ p, H2 p = none → ta σ (upd H2 p (.lst [x, y])) fun z H3 =>
    ∃ a C dx fs, z = .ref a ∧ H3 a = some (.ins C dx fs) ∧ Cls K C ∧ NoAttr K C f ∧ fs.length < 1000 ∧ D.nx σ (upd H3 a (.ins C dx (putF f (.ref p) fs)))) : sFld K ta (tLst (tCons t1 (tCons t2 tNil))) f D σ H := h

theorem ok_renew (T : Txt K mg A) : FnOk P w K mg base CX0 3 A.f_renew A.d_renew ["self", "teams"] (spRenew K A) := by
  refine T.F_renew.ok sc_renew (fun vs H Q E h => ?_) (fun cdv A' outer s H vs Q E hr h => ?_)
  · obtain ⟨H0, p, dx, a, fs, ns, rfl, _⟩ := h; rfl
  · obtain ⟨H0, p, dx, a, fs, ns, rfl, s0, p0, hp, hS, hn, hz, hfs, q⟩ := h
    refine ⟨_, (pss_cons (ps_fld (pv 0) (pe_callTy call_list_of (by rfl) T.b_list (by decide +kernel) (pa_cons (pv 1) pa_nil)) rfl)
      (pss_cons (ps_fld (pv 0) (pe_lst (pa_cons (pe_lc (own := [("team", 2)]) (g := gName 2) rfl sc_renew.nd (pi_list (pv 1)) (blkOk_by (own := [("team", 2)]) (N := ["self", "teams", "team"]) (sc := defScope s_renew) (by decide +kernel)) (fun _ _ _ _ _ => pg_name (i := 2) sc_renew.nd rfl (Or.inl rfl)) (fun _ _ _ _ _ => pts_nil) (fun _ _ _ _ _ => (pe_make0 T.mk_Part (ok_Part_init T) hr rfl T.g_Part (b_Part_init T) .nil pass0))) (pa_cons (pe_lc (own := [("team", 2)]) (g := gName 2) rfl sc_renew.nd (pi_list (pv 1)) (blkOk_by (own := [("team", 2)]) (N := ["self", "teams", "team"]) (sc := defScope s_renew) (by decide +kernel)) (fun _ _ _ _ _ => pg_name (i := 2) sc_renew.nd rfl (Or.inl rfl)) (fun _ _ _ _ _ => pts_nil) (fun _ _ _ _ _ => (pe_make0 T.mk_Part (ok_Part_init T) hr rfl T.g_Part (b_Part_init T) .nil pass0))) pa_nil))) rfl)
      (pss_cons (ps_fld (pv 0) (pe_cst rfl T.c_WAITING) rfl)
      (pss_cons (ps_fld (pv 0) pe_int rfl)
      (pss_cons (ps_fld (pv 0) (pe_cst rfl T.c_NOBODY) rfl)
      (pss_one (ps_fld (pv 0) (pe_cst rfl T.c_WAITING) rfl))))))), ?_⟩
    have l6 : fs.length ≤ 6 := by
      rcases hfs with rfl | ⟨t, l, i, j, k, n, rfl⟩
      · exact Nat.zero_le _
      · exact Nat.le_refl 6
    -- self.teams = list(teams)
    refine ⟨_, rfl, a, _, rfl, .inl hS, fun tl htl => ?_⟩
    have np : p ≠ tl := ne_of_none hp htl
    refine ⟨_, rfl, p, A.Board, dx, fs, rfl, by rw [upd_ne np]; exact hp, T.cl_Board, T.n_teams, by omega, ?_⟩
    generalize hA : upd (upd H tl (.lst (ns.map V.int))) p (.ins A.Board dx (putF "teams" (.ref tl) fs)) = Ha
    have ap : Ha p = some (.ins A.Board dx (putF "teams" (.ref tl) fs)) := by rw [← hA, upd_same]
    have at_ : Ha tl = some (.lst (ns.map V.int)) := by rw [← hA, upd_ne np.symm, upd_same]
    have ae : ∀ c o, H c = some o → c ≠ p → Ha c = some o := fun c o e n => by rw [← hA, upd_ne n, upd_ne (ne_of_none e htl)]; exact e
    have an : ∀ c, Ha c = none → H c = none ∧ c ≠ p ∧ c ≠ tl := fun c e => by
      have n1 : c ≠ p := fun z => by rw [z, ap] at e; cases e
      have n2 : c ≠ tl := fun z => by rw [z, at_] at e; cases e
      rw [← hA, upd_ne n1, upd_ne n2] at e
      exact ⟨e, n1, n2⟩
    clear hA
    have aS : SqL K Ha a (ns.map V.int) := by
      rcases hS with (e | ⟨o, e⟩) | e
      · exact .inl (.inl (ae _ _ e (ne_of e hp (by intro z; cases z))))
      · exact .inl (.inr ⟨o, ae _ _ e (ne_of e hp (by intro z; cases z))⟩)
      · exact .inr e
    have hl24 : (ns.map V.int).length ≤ 24 := by rw [List.length_map]; exact hn
    -- the two lists of parts
    dsimp only [tSeq]
    refine u_fld2 ?_
    refine lc_parts rfl aS hl24 fun D0 H2 L0 s2 d0 e0 P0 k0 u0 f0 => ?_
    refine lc_parts rfl (s2.seq aS) hl24 fun D1 H3 L1 s3 d1 e1 P1 k1 u1 f1 => ?_
    refine ⟨by show 2 ≤ sizeLine; decide, fun pl hpl => ?_⟩
    have p3 : H3 p = some (.ins A.Board dx (putF "teams" (.ref tl) fs)) := s3 _ _ (s2 _ _ ap)
    have npl : p ≠ pl := ne_of_none p3 hpl
    have z1 := putF_len "teams" (.ref tl) fs
    have z2 := putF_len "parts" (.ref pl) (putF "teams" (.ref tl) fs)
    have z3 := putF_len "lift" (.int (-1)) (putF "parts" (.ref pl) (putF "teams" (.ref tl) fs))
    have z4 := putF_len "tries" (.int 0) (putF "lift" (.int (-1)) (putF "parts" (.ref pl) (putF "teams" (.ref tl) fs)))
    have z5 := putF_len "newest_lifter" (.int (-1)) (putF "tries" (.int 0) (putF "lift" (.int (-1)) (putF "parts" (.ref pl) (putF "teams" (.ref tl) fs))))
    refine ⟨_, rfl, p, A.Board, dx, _, rfl, by rw [upd_ne npl]; exact p3, T.cl_Board, T.n_parts, by omega, ?_⟩
    refine st_fld v_c (v_var rfl) upd_same T.cl_Board T.n_lift (by omega) ?_
    refine st_fld v_c (v_var rfl) upd_same T.cl_Board T.n_tries (by omega) ?_
    refine st_fld v_c (v_var rfl) upd_same T.cl_Board T.n_newest_lifter (by omega) ?_
    refine st_fld v_c (v_var rfl) upd_same T.cl_Board T.n_newest_lift (by omega) ?_
    rw [upd_upd, upd_upd, upd_upd, upd_upd, all_fields hfs]
    have ln : (ns.map V.int).length = ns.length := List.length_map ..
    rw [ln] at e0 P0 k0 u0 f0 e1 P1 k1 u1 f1
    have fl : (fresh ns).lifters.length = ns.length := fresh_len ns
    have h01 : ∀ k : Nat, k < 2 → k = 0 ∨ k = 1 := fun k h => by omega
    have t0 : ∀ i c, i < ns.length → (L0 i).has c → ∃ u, H2 c = some u := fun i c hi hc => (P0 i hi).tracked hc
    have t1 : ∀ i c, i < ns.length → (L1 i).has c → ∃ u, H3 c = some u := fun i c hi hc => (P1 i hi).tracked hc
    have n0 : ∀ i c, i < ns.length → (L0 i).has c → Ha c = none := fun i c hi hc => (f0 i c hi hc).1
    have n1 : ∀ i c, i < ns.length → (L1 i).has c → H2 c = none := fun i c hi hc => (f1 i c hi hc).1
    have x0 : ∀ i c, i < ns.length → (L0 i).has c → c ≠ p ∧ c ≠ tl ∧ c ≠ pl ∧ c ≠ D0 ∧ c ≠ D1 := fun i c hi hc => by
      obtain ⟨u, hu⟩ := t0 i c hi hc
      exact ⟨(an c (n0 i c hi hc)).2.1, (an c (n0 i c hi hc)).2.2, ne_of_none (s3 _ _ hu) hpl, (f0 i c hi hc).2, ne_of_none hu d1⟩
    have x1 : ∀ i c, i < ns.length → (L1 i).has c → c ≠ p ∧ c ≠ tl ∧ c ≠ pl ∧ c ≠ D0 ∧ c ≠ D1 := fun i c hi hc => by
      obtain ⟨u, hu⟩ := t1 i c hi hc
      have na := s2.free (n1 i c hi hc)
      exact ⟨(an c na).2.1, (an c na).2.2, ne_of_none hu hpl, (ne_of_none e0 (n1 i c hi hc)).symm, (f1 i c hi hc).2⟩
    have pe0 : D0 ≠ p := (ne_of_none ap d0).symm
    have pe1 : D1 ≠ p := (ne_of_none (s2 _ _ ap) d1).symm
    have tp : tl ≠ p := np.symm
    have tpl : tl ≠ pl := ne_of_none (s3 _ _ (s2 _ _ at_)) hpl
    have fin : ∀ c o, H3 c = some o → c ≠ p → (upd (upd H3 pl (.lst [.ref D0, .ref D1])) p (.ins A.Board dx (bG tl pl (-1) 0 (-1) (-1)))) c = some o := fun c o e n => by
      rw [upd_ne n, upd_ne (ne_of_none e hpl)]; exact e
    have fr : ∀ c, H0 c = none ∨ ∃ o, H0 c = some o ∧ c ≠ p ∧ H c = some o := fun c => by
      cases e : H0 c with
      | none => exact .inl rfl
      | some o => exact .inr ⟨o, rfl, ne_of_none e p0, s0 _ _ e⟩
    refine q _ ⟨tl, pl, fun k => if k = 0 then D0 else D1, fun k i => if k = 0 then L0 i else L1 i⟩ ⟨fun c o e => ?_, ⟨dx, upd_same⟩, ?_, ?_, fun k hk => ?_, fun k i hk hi => ?_, fun k i hk hi => ?_, fun k i k' i' c hk hi hk' hi' h h' => ?_, fun k i c hk hi h => ?_, ⟨p0, ?_, ?_, ?_, ?_⟩, fun k i c hk hi h => ?_⟩
    · have n := ne_of_none e p0
      exact fin c o (s3 _ _ (s2 _ _ (ae c o (s0 _ _ e) n))) n
    · refine (fin tl _ (s3 _ _ (s2 _ _ at_)) tp).trans ?_
      refine congrArg (fun z => some (HO.lst z)) ?_
      show ns.map V.int = (ns.map fun z => (⟨z.toNat, ⟨[], 0, 0⟩, ⟨[], 0, 0⟩⟩ : Kg59.Lifter)).map fun l => V.int l.team
      rw [List.map_map]
      refine List.map_congr_left fun z m => ?_
      show V.int z = V.int ((z.toNat : Nat) : Int)
      rw [Int.toNat_of_nonneg (hz z m)]
    · show (upd (upd H3 pl (.lst [.ref D0, .ref D1])) p (.ins A.Board dx (bG tl pl (-1) 0 (-1) (-1)))) pl = some (.lst [.ref D0, .ref D1])
      rw [upd_ne npl.symm, upd_same]
    · rw [fl]
      rcases h01 k hk with rfl | rfl
      · exact fin D0 _ (s3 _ _ e0) pe0
      · exact fin D1 _ e1 pe1
    · rw [fl] at hi
      rw [fresh_of]
      rcases h01 k hk with rfl | rfl
      · exact ((P0 i hi).mono s3).same fun c hc => by rw [upd_ne (x0 i c hi hc).1, upd_ne (x0 i c hi hc).2.2.1]
      · exact (P1 i hi).same fun c hc => by rw [upd_ne (x1 i c hi hc).1, upd_ne (x1 i c hi hc).2.2.1]
    · rw [fl] at hi
      rcases h01 k hk with rfl | rfl
      · exact k0 i hi
      · exact k1 i hi
    · rw [fl] at hi hi'
      rcases h01 k hk with rfl | rfl <;> rcases h01 k' hk' with rfl | rfl
      · exact ⟨rfl, u0 i i' c hi hi' h h'⟩
      · obtain ⟨u, hu⟩ := t0 i c hi h
        rw [n1 i' c hi' h'] at hu
        cases hu
      · obtain ⟨u, hu⟩ := t0 i' c hi' h'
        rw [n1 i c hi h] at hu
        cases hu
      · exact ⟨rfl, u1 i i' c hi hi' h h'⟩
    · rw [fl] at hi
      rcases h01 k hk with rfl | rfl
      · exact x0 i c hi h
      · exact x1 i c hi h
    · exact s0.free htl
    · rcases fr pl with e | ⟨o, e, n, e2⟩
      · exact e
      · rw [s3 _ _ (s2 _ _ (ae _ _ e2 n))] at hpl; cases hpl
    · exact s0.free (an D0 d0).1
    · exact s0.free (an D1 (s2.free d1)).1
    · rw [fl] at hi
      rcases h01 k hk with rfl | rfl
      · exact s0.free (an c (n0 i c hi h)).1
      · exact s0.free (an c (s2.free (n1 i c hi h))).1

theorem ok_Board_init (T : Txt K mg A) : FnOk P w K mg base CX0 4 A.f_Board_init A.d_Board_init ["self"] (spBoardInit A) := by
  refine T.F_Board_init.ok sc_Board_init (fun vs H Q E h => ?_) (fun cdv A' outer s H vs Q E hr h => ?_)
  · obtain ⟨H0, p, dx, rfl, _⟩ := h; rfl
  · obtain ⟨H0, p, dx, rfl, s0, p0, hp, q⟩ := h
    refine ⟨_, (pss_one (ps_expr (pe_meth (pv 0) T.cl_Board T.m_renew (ok_renew T) hr (b_renew T) .nil pass0 (pa_cons (pe_lst pa_nil) pa_nil)))), ?_⟩
    refine ⟨_, rfl, p, dx, [], rfl, hp, rfl, Nat.zero_le _, fun l hl => ?_⟩
    refine ⟨H0, p, dx, l, [], [], rfl, fun c o e => same_new hl _ _ (s0 _ _ e), p0, same_new hl _ _ hp, SqL.of upd_same, Nat.zero_le _, fun z m => (List.not_mem_nil m).elim, .inl rfl, fun H' y B => q H' y B⟩
end
end BC
/-! BcLineup -/
/-! Who's left, the order of calling, who's up. -/
namespace BC
open PySem PySem.Spec PyProof.Rows L2

/-! ### rows of whole numbers that stand in tuples -/
def Rows (H : Hp) : List Addr → List (List Int) → Prop
  | [], [] => True
  | t :: ts, r :: rs => H t = some (.tup (r.map V.int)) ∧ Rows H ts rs
  | _, _ => False
theorem Rows.mono {H H' : Hp} (e : Same H H') : ∀ {ts : List Addr} {rs : List (List Int)}, Rows H ts rs → Rows H' ts rs
  | [], [], _ => trivial
  | _ :: _, _ :: _, h => ⟨e _ _ h.1, Rows.mono e h.2⟩
  | [], _ :: _, h => h.elim
  | _ :: _, [], h => h.elim
theorem Rows.snoc {H : Hp} {t : Addr} {r : List Int} (ht : H t = some (.tup (r.map V.int))) : ∀ {ts : List Addr} {rs : List (List Int)}, Rows H ts rs → Rows H (ts ++ [t]) (rs ++ [r])
  | [], [], _ => ⟨ht, trivial⟩
  | _ :: _, _ :: _, h => ⟨h.1, Rows.snoc ht h.2⟩
  | [], _ :: _, h => h.elim
  | _ :: _, [], h => h.elim
theorem Rows.len {H : Hp} : ∀ {ts : List Addr} {rs : List (List Int)}, Rows H ts rs → ts.length = rs.length
  | [], [], _ => rfl
  | _ :: _, _ :: _, h => congrArg Nat.succ (Rows.len h.2)
  | [], _ :: _, h => h.elim
  | _ :: _, [], h => h.elim
theorem Rows.get {H : Hp} : ∀ {ts : List Addr} {rs : List (List Int)} {j : Nat} {r : List Int}, Rows H ts rs → rs[j]? = some r → ∃ t, ts[j]? = some t ∧ H t = some (.tup (r.map V.int))
  | [], [], _, _, _, h => by cases h
  | t :: ts, r :: rs, 0, x, h, e => ⟨t, rfl, by cases e; exact h.1⟩
  | t :: ts, r :: rs, j + 1, x, h, e => Rows.get (j := j) h.2 e
  | [], _ :: _, _, _, h, _ => h.elim
  | _ :: _, [], _, _, h, _ => h.elim
def toI : V → Int
  | .int i => i
  | _ => 0
def kOf (H : Hp) (t : Addr) : List Int := match H t with
  | some (.tup vs) => vs.map toI
  | _ => []
theorem kOf_at {H : Hp} {t : Addr} {r : List Int} (h : H t = some (.tup (r.map V.int))) : kOf H t = r := by
  unfold kOf
  rw [h]
  show (r.map V.int).map toI = r
  rw [List.map_map]
  exact (List.map_congr_left fun _ _ => rfl).trans (List.map_id r)
theorem Rows.keys {H : Hp} : ∀ {ts : List Addr} {rs : List (List Int)}, Rows H ts rs → ts.map (kOf H) = rs
  | [], [], _ => rfl
  | t :: ts, r :: rs, h => by rw [List.map_cons, kOf_at h.1, Rows.keys h.2]
  | [], _ :: _, h => h.elim
  | _ :: _, [], h => h.elim
theorem Rows.mem {H : Hp} : ∀ {ts : List Addr} {rs : List (List Int)} {t : Addr}, Rows H ts rs → t ∈ ts → ∃ r ∈ rs, H t = some (.tup (r.map V.int))
  | t :: ts, r :: rs, x, h, m => by
    rcases List.mem_cons.mp m with rfl | m
    · exact ⟨r, List.mem_cons_self, h.1⟩
    · obtain ⟨r', m', e⟩ := Rows.mem h.2 m
      exact ⟨r', List.mem_cons_of_mem _ m', e⟩
  | [], [], _, _, m => nomatch m
  | [], _ :: _, _, h, _ => h.elim
  | _ :: _, [], _, h, _ => h.elim
theorem rows_of {H : Hp} {k : Addr → List Int} : ∀ {us : List Addr}, (∀ t ∈ us, H t = some (.tup ((k t).map V.int))) → Rows H us (us.map k)
  | [], _ => trivial
  | t :: us, h => ⟨h t List.mem_cons_self, rows_of fun u m => h u (List.mem_cons_of_mem _ m)⟩
theorem lexLt_lx : ∀ a b : List Int, HT.lexLt a b = lx a b
  | [], [] => rfl
  | [], _ :: _ => rfl
  | _ :: _, [] => rfl
  | u :: us, v :: vs => by
    rw [HT.lexLt_cons]
    by_cases e : u = v
    · rw [if_pos e, lx_eq e]; exact lexLt_lx us vs
    · rw [if_neg e, lx_ne e]

theorem not_t {k : Bool} (h : (!k) = true) : k = false := by cases k with | false => rfl | true => cases h
theorem not_f {k : Bool} (h : (!k) = false) : k = true := by cases k with | true => rfl | false => cases h

/-! ### what comes to a new list, a new tuple -/
def NewL (te : TE) (σ : L2.St) (H : Hp) (xs : List V) : Prop := ∀ Q : VK, (∀ p H', Same H H' → H p = none → H' p = some (.lst xs) → Q (.ref p) H') → te σ H Q
def NewT (K : PySem.W.Frag) (te : TE) (σ : L2.St) (H : Hp) (xs : List V) : Prop := ∀ Q : VK, (∀ p H', Same H H' → H p = none → SqT K H' p xs → Q (.ref p) H') → te σ H Q
section
variable {K : PySem.W.Frag} {σ : L2.St} {H : Hp} {te tn : TE} {D : Ends} {u v : V}
/-- x, y = e -/
theorem s_unp {i j : Nat} (h : NewT K te σ H [u, v]) (q : ∀ H', Same H H' → D.nx ((σ.set i (some u)).set j (some v)) H') : tAsg te (gTup K 2 (gCons (gName i) (gCons (gName j) gNil))) D σ H :=
  h _ fun p H' e _ ht => ⟨p, _, rfl, ht, rfl, u, _, rfl, v, _, rfl, rfl, q H' e⟩
/-- x = e, e a new list -/
theorem s_newL {i : Nat} {xs : List V} (h : NewL te σ H xs) (q : ∀ p H', Same H H' → H p = none → H' p = some (.lst xs) → D.nx (σ.set i (some (.ref p))) H') : tAsg te (gName i) D σ H := h _ q
theorem s_retN {xs : List V} (h : NewL te σ H xs) (q : ∀ p H', Same H H' → H p = none → H' p = some (.lst xs) → D.rt (.ref p) H') : tRet te D σ H := h _ q
/-- [e for i in range(n) if t], e and t changing nothing -/
theorem lc_pure {n k : Nat} {tt : TT} {vs : List Nat} (h : Val tn σ H (.int n)) (hn : n ≤ 1000) (p : Nat → Bool) (f : Nat → V) (hw : ∀ v, wipe ((wipe σ vs).set k v) vs = wipe σ vs)
    (ht : ∀ i H', i < n → Same H H' → Ans tt ((wipe σ vs).set k (some (.int i))) H' (p i)) (he : ∀ i H', i < n → Same H H' → Val te ((wipe σ vs).set k (some (.int i))) H' (f i)) : NewL (tLc (iRng1 (tCons tn tNil)) (gName k) tt te vs) σ H (((List.range n).filter p).map f) := by
  intro Q q
  refine h _ ⟨n, rfl, by omega, by omega, fun D hD => lc_range (lo := 0) (n := n) (fun i H' => Same H H' ∧ H' D = some (.lst (((List.range i).filter p).map f))) ⟨same_new hD, upd_same⟩ (fun i H' hi ⟨s1, e1⟩ => ?_) fun H' ⟨s1, e1⟩ => q D H' s1 hD e1⟩
  rw [Int.zero_add]
  refine ⟨hw _, ?_⟩
  refine ht i H' hi s1 _ ?_
  cases c : p i with
  | true =>
    refine iteT (he i H' hi s1 _ ⟨_, e1, ?_, fun b o e => ?_, ?_⟩)
    · have z := List.length_filter_le p (List.range i)
      rw [List.length_range] at z
      rw [List.length_map]
      exact Nat.lt_of_lt_of_le (show _ < 100000 by omega) (by decide)
    · rw [upd_ne (ne_of_none e hD)]
      exact s1 b o e
    · rw [upd_same, List.range_succ, List.filter_append, List.map_append]
      have z : [i].filter p = [i] := by rw [List.filter_cons, if_pos c, List.filter_nil]
      rw [z]
      rfl
  | false =>
    refine iteF ⟨s1, ?_⟩
    rw [List.range_succ, List.filter_append]
    have z : [i].filter p = [] := by rw [List.filter_cons, if_neg (by rw [c]; exact Bool.false_ne_true), List.filter_nil]
    rw [z, List.append_nil]
    exact e1
end

/-! ### promises -/
def ansL (a : Kg59.Ans) : List V := (a.value :: a.out).map V.int
def rdy (s : Kg59.State) : Prop := s.begun = true ∧ s.lift < 2 ∧ s.lifters.length ≤ 24
def spLeft (A : Adr) : Sp := fun vs H Q _ => ∃ H0 b s nw y, vs = [.ref b] ∧ BoardAt A.Board A.Part H0 H b s nw y ∧ rdy s ∧
  ∀ p H', Same H H' → H p = none → H' p = some (.lst (s.left.map fun i : Nat => V.int i)) → Q (.ref p) H'
def spCallingRow (A : Adr) : Sp := fun vs H Q _ => ∃ H0 b s nw y, ∃ i : Nat, vs = [.ref b, .int i] ∧ BoardAt A.Board A.Part H0 H b s nw y ∧ rdy s ∧ i < s.lifters.length ∧
  ∀ p H', Same H H' → H p = none → H' p = some (.tup ((rowOf s i).map V.int)) → Q (.ref p) H'
def spCallingOrder (A : Adr) : Sp := fun vs H Q _ => ∃ H0 b s nw y, vs = [.ref b] ∧ BoardAt A.Board A.Part H0 H b s nw y ∧ rdy s ∧
  ∀ p H' ts, Same H H' → H p = none → H' p = some (.lst (ts.map V.ref)) → Rows H' ts (s.order.map (rowOf s)) → Q (.ref p) H'
def spFirstCalled (K : PySem.W.Frag) (A : Adr) : Sp := fun vs H Q _ => ∃ H0 b s nw y, ∃ (i : Nat) (r : List Nat), vs = [.ref b] ∧ BoardAt A.Board A.Part H0 H b s nw y ∧ rdy s ∧ s.order = i :: r ∧
  ∀ p H', Same H H' → H p = none → SqT K H' p [.int i, .int (s.liftOf i s.lift).next] → Q (.ref p) H'
def spUp (A : Adr) : Sp := fun vs H Q _ => ∃ H0 b s nw y, vs = [.ref b] ∧ BoardAt A.Board A.Part H0 H b s nw y ∧ Good s nw ∧
  ∀ p H', Same H H' → H p = none → H' p = some (.lst (ansL (Kg59.called s))) → Q (.ref p) H'
def spOrder (A : Adr) : Sp := fun vs H Q _ => ∃ H0 b s nw y, vs = [.ref b] ∧ BoardAt A.Board A.Part H0 H b s nw y ∧ Good s nw ∧
  ∀ p H', Same H H' → H p = none → H' p = some (.lst (ansL (Kg59.spec s .order).2)) → Q (.ref p) H'

section
variable {P : Program} {w : World} {K : PySem.W.Frag} {mg : Str → Option Value} {base : Heap} {A : Adr}
variable {σ : L2.St} {H0 H H' : Hp} {te tb : TE} {b : Addr} {s : Kg59.State} {nw : NW} {y : Lay} {D : Ends}

theorem n_left (B : BoardAt A.Board A.Part H0 H b s nw y) (R : rdy s) (h : Val te σ H (.ref b)) : NewL (tCall (spLeft A) [] E0 (tCons te tNil)) σ H (s.left.map fun i : Nat => V.int i) := fun _ q => h _ ⟨H0, b, s, nw, y, rfl, B, R, q⟩
theorem n_first {i : Nat} {r : List Nat} (B : BoardAt A.Board A.Part H0 H b s nw y) (R : rdy s) (e : s.order = i :: r) (h : Val te σ H (.ref b)) : NewT K (tCall (spFirstCalled K A) [] E0 (tCons te tNil)) σ H [.int i, .int (s.liftOf i s.lift).next] :=
  fun _ q => h _ ⟨H0, b, s, nw, y, i, r, rfl, B, R, e, q⟩
theorem len_teams (B : BoardAt A.Board A.Part H0 H b s nw y) (T : Txt K mg A) (h : Val te σ H (.ref b)) :
    Val (tCB (fun zs H Q => ∃ p ys, zs = [.ref p] ∧ (SqL K H p ys ∨ SqT K H p ys) ∧ Q (.int ys.length) H) (tCons (tFld K te "teams") tNil)) σ H (.int s.lifters.length) := by
  have z := v_len (bf_teams T B h) (SqL.of (K := K) B.tl)
  rw [List.length_map] at z
  exact z

theorem ok_left (T : Txt K mg A) : FnOk P w K mg base CX0 2 A.f_left A.d_left ["board"] (spLeft A) := by
  refine T.F_left.ok sc_left (fun vs H Q E h => ?_) (fun cdv A' outer s H vs Q E hr h => ?_)
  · obtain ⟨H0, b, s, nw, y, rfl, _⟩ := h; rfl
  · obtain ⟨H0, b, s, nw, y, rfl, B, ⟨hb, hl, h24⟩, q⟩ := h
    refine ⟨_, (pss_one (ps_ret (pe_lc (own := [("lifter", 1)]) (g := gName 1) rfl sc_left.nd (pi_range1 (by rfl) T.b_range (pa_cons (pe_callB call_len_seq (by rfl) T.b_len PySem.boot_len (pa_cons (pe_fld (pv 0) rfl) pa_nil)) pa_nil)) (blkOk_by (own := [("lifter", 1)]) (N := ["board", "lifter"]) (sc := defScope s_left) (by decide +kernel)) (fun _ _ _ _ _ => pg_name (i := 1) sc_left.nd rfl (Or.inl rfl)) (fun _ _ _ _ _ => pts_one (pt_cmpR op_lt (pe_meth0 (pe_meth (pv 0) T.cl_Board T.m_part_now (ok_part_now T) hr (b_part_now T) .nil pass0 (pa_cons (pv 1) pa_nil)) T.cl_Part T.m_made (ok_made T) hr (b_made T) .nil pass0) (pe_cst rfl T.c_ATTEMPTS) (nomark _))) (fun _ _ _ _ _ => (pv 1))))), ?_⟩
    refine s_retN (lc_pure (k := 1) (n := s.lifters.length) (len_teams B T (v_var rfl)) (by omega) (fun i => decide ((s.liftOf i s.lift).tries.length < Kg59.TRIES)) (fun i => .int i) (fun _ => rfl) (fun i H' hi e => ?_) (fun i H' hi e => v_var rfl)) q
    have B1 := B.mono e
    refine t_is (t_v (v_lt (vm_made (B1.part s.lift i hl hi) (vb_part_now B1 (v_var rfl) (v_var (v := .int i) rfl) hb hl hi)) v_c)) (decide_eq_decide.mpr ?_)
    show ((s.liftOf i s.lift).tries.length : Int) < 3 ↔ (s.liftOf i s.lift).tries.length < 3
    omega
theorem ok_calling_row (T : Txt K mg A) : FnOk P w K mg base CX0 2 A.f_calling_row A.d_calling_row ["board", "lifter"] (spCallingRow A) := by
  refine T.F_calling_row.ok sc_calling_row (fun vs H Q E h => ?_) (fun cdv A' outer s H vs Q E hr h => ?_)
  · obtain ⟨H0, b, s, nw, y, i, rfl, _⟩ := h; rfl
  · obtain ⟨H0, b, s, nw, y, i, rfl, B, ⟨hb, hl, h24⟩, hi, q⟩ := h
    refine ⟨_, (pss_cons (ps_set (i := 2) sc_calling_row.nd rfl (Or.inl rfl) (pe_meth (pv 0) T.cl_Board T.m_part_now (ok_part_now T) hr (b_part_now T) .nil pass0 (pa_cons (pv 1) pa_nil)))
      (pss_one (ps_ret (pe_tup (pa_cons (pe_fld (pv 2) rfl) (pa_cons (pe_meth0 (pv 2) T.cl_Part T.m_made (ok_made T) hr (b_made T) .nil pass0) (pa_cons (pe_meth (pv 2) T.cl_Part T.m_moment (ok_moment T) hr (b_moment T) .nil pass0 (pa_cons (pe_meth0 (pv 2) T.cl_Part T.m_made (ok_made T) hr (b_made T) .nil pass0) pa_nil)) (pa_cons (pv 1) pa_nil)))))))), ?_⟩
    have Pt := B.part s.lift i hl hi
    refine s_set (vb_part_now B (v_var rfl) (v_var (v := .int i) rfl) hb hl hi) ?_
    exact s_retT (a1 (vf_asks T Pt (v_var rfl)) (a1 (vm_made Pt (v_var rfl)) (a1 (vm_moment Pt (v_var rfl) (vm_made Pt (v_var rfl)) (Nat.le_refl _)) (a1 (v_var (v := .int i) rfl) a0)))) (by show 4 ≤ 100; decide)
      fun p hp => q p _ (same_new hp) hp upd_same
theorem ok_calling_order (T : Txt K mg A) : FnOk P w K mg base CX0 3 A.f_calling_order A.d_calling_order ["board"] (spCallingOrder A) := by
  refine T.F_calling_order.ok sc_calling_order (fun vs H Q E h => ?_) (fun cdv A' outer s H vs Q E hr h => ?_)
  · obtain ⟨H0, b, s, nw, y, rfl, _⟩ := h; rfl
  · obtain ⟨H0, b, s, nw, y, rfl, B, R, q⟩ := h
    refine ⟨_, (pss_one (ps_ret (pe_callB cr_sortL (by rfl) T.b_sorted (by decide +kernel) (pa_cons (pe_lc (own := [("lifter", 1)]) (g := gName 1) rfl sc_calling_order.nd (pi_list (pe_call (ok_left T) hr rfl T.g_left T.F_left.kp (b_left T) .nil pass0 (pa_cons (pv 0) pa_nil))) (blkOk_by (own := [("lifter", 1)]) (N := ["board", "lifter"]) (sc := defScope s_calling_order) (by decide +kernel)) (fun _ _ _ _ _ => pg_name (i := 1) sc_calling_order.nd rfl (Or.inl rfl)) (fun _ _ _ _ _ => pts_nil) (fun _ _ _ _ _ => (pe_call (ok_calling_row T) hr rfl T.g_calling_row T.F_calling_row.kp (b_calling_row T) .nil pass0 (pa_cons (pv 0) (pa_cons (pv 1) pa_nil))))) pa_nil)))), ?_⟩
    refine n_left B R (v_var rfl) _ fun pl H1 s1 hpl el => ?_
    have ln : s.left.length ≤ 24 := by
      unfold Kg59.State.left
      refine Nat.le_trans (List.length_filter_le _ _) ?_
      rw [List.length_range]
      exact R.2.2
    refine ⟨pl, rfl, ⟨_, SqL.of el⟩, fun Dl hD => lc_list (K := K) (a := pl) (xs := s.left.map fun i : Nat => V.int i) (fun i H' => ∃ ts : List Addr, Same H1 H' ∧ H' Dl = some (.lst (ts.map V.ref)) ∧ Rows H' ts ((s.left.take i).map (rowOf s))) ?_ ?_ ?_ ?_⟩
    · exact ⟨[], same_new hD, upd_same, trivial⟩
    · rintro i H' _ ⟨ts, s2, _⟩
      exact s2.seq (SqL.of el)
    · rintro i x H' hx ⟨ts, s2, eD, Rw⟩
      rw [List.getElem?_map] at hx
      cases ei : s.left[i]? with
      | none => rw [ei] at hx; cases hx
      | some j =>
        rw [ei] at hx
        obtain rfl : V.int j = x := Option.some.inj hx
        have hj : j < s.lifters.length := (mem_left.mp (List.mem_of_getElem? ei)).1
        refine ⟨rfl, ?_⟩
        unfold tYes
        dsimp only
        rw [if_pos rfl]
        refine ⟨_, rfl, _, rfl, H0, b, s, nw, y, j, rfl, B.mono (s1.trans s2), R, hj, fun t H2 s3 ht et => ?_⟩
        have tD : t ≠ Dl := fun z => by rw [z, eD] at ht; cases ht
        refine ⟨ts.map V.ref, s3 _ _ eD, ?_, ts ++ [t], fun c o e => ?_, ?_, ?_⟩
        · have z := Rw.len
          rw [List.length_map] at z ⊢
          rw [z, List.length_take]
          exact Nat.lt_of_lt_of_le (show _ < 100000 by omega) (by decide)
        · rw [upd_ne (ne_of_none e hD)]
          exact s3 _ _ (s2 _ _ e)
        · rw [upd_same, List.map_append]
          rfl
        · rw [take_one ei, List.map_append]
          refine Rows.snoc (by rw [upd_ne tD]; exact et) ?_
          have ne : ∀ z ∈ ts, z ≠ Dl := fun z m k => by
            obtain ⟨r, _, e⟩ := Rw.mem m
            rw [k, eD] at e
            cases e
          have up : ∀ {us : List Addr} {rs : List (List Int)}, (∀ z ∈ us, z ≠ Dl) → Rows H' us rs → Rows (upd H2 Dl (.lst (ts.map V.ref ++ [V.ref t]))) us rs := by
            intro us
            induction us with
            | nil =>
              intro rs _ h
              cases rs with
              | nil => trivial
              | cons => exact h.elim
            | cons z us ih =>
              intro rs hz h
              cases rs with
              | nil => exact h.elim
              | cons r rs => exact ⟨by rw [upd_ne (hz z List.mem_cons_self)]; exact s3 _ _ h.1, ih (fun u m => hz u (List.mem_cons_of_mem _ m)) h.2⟩
          exact up ne Rw
    · rintro H' ⟨ts, s2, eD, Rw⟩
      rw [List.length_map, List.take_length] at Rw
      refine ⟨Dl, ts, kOf H', 3, rfl, SqL.of eD, fun t m => ?_, fun us p pm so hp => ?_⟩
      · obtain ⟨r, mr, e⟩ := Rw.mem m
        rw [kOf_at e]
        obtain ⟨j, _, rfl⟩ := List.mem_map.mp mr
        exact ⟨SqT.of e, rfl⟩
      · have er : us.map (kOf H') = s.order.map (rowOf s) := by
          refine order_rows ?_ ?_
          · rw [← Rw.keys]
            exact pm.map _
          · rw [List.pairwise_map]
            refine so.imp fun {u v} z => ?_
            rw [← lexLt_lx]
            exact z
        have s3 : Same H H' := s1.trans s2
        refine q p _ us (s3.trans (same_new hp)) (s3.free hp) upd_same ?_
        rw [← er]
        refine rows_of fun t m => ?_
        obtain ⟨r, mr, e⟩ := Rw.mem (pm.mem_iff.mp m)
        rw [kOf_at e]
        exact same_new hp _ _ e
theorem ok_first_called (T : Txt K mg A) : FnOk P w K mg base CX0 4 A.f_first_called A.d_first_called ["board"] (spFirstCalled K A) := by
  refine T.F_first_called.ok sc_first_called (fun vs H Q E h => ?_) (fun cdv A' outer s H vs Q E hr h => ?_)
  · obtain ⟨H0, b, s, nw, y, i, r, rfl, _⟩ := h; rfl
  · obtain ⟨H0, b, s, nw, y, i, r, rfl, B, R, eo, q⟩ := h
    refine ⟨_, (pss_cons (ps_set (i := 1) sc_first_called.nd rfl (Or.inl rfl) (pe_ix ix_list (pe_call (ok_calling_order T) hr rfl T.g_calling_order T.F_calling_order.kp (b_calling_order T) .nil pass0 (pa_cons (pv 0) pa_nil)) pe_int (fun _ _ => rfl)))
      (pss_one (ps_ret (pe_tup (pa_cons (pe_ix ix_tup (pv 1) pe_int (fun _ _ => rfl)) (pa_cons (pe_ix ix_tup (pv 1) pe_int (fun _ _ => rfl)) pa_nil)))))), ?_⟩
    refine ⟨_, rfl, H0, b, s, nw, y, rfl, B, R, fun p H1 ts s1 hp el Rw => ?_⟩
    rw [eo] at Rw
    obtain ⟨t, et, ht⟩ := Rw.get (j := 0) rfl
    refine ⟨p, _, 0, .ref t, rfl, rfl, SqL.of el, at_z (j := 0) rfl (by rw [List.getElem?_map, et]; rfl), ?_⟩
    exact s_retT (a1 (v_ixT (v_var rfl) v_c (SqT.of ht) (at_z (j := 3) rfl rfl)) (a1 (v_ixT (v_var rfl) v_c (SqT.of ht) (at_z (j := 0) rfl rfl)) a0)) (by show 2 ≤ 100; decide)
      fun p2 hp2 => q p2 _ (s1.trans (same_new hp2)) (s1.free hp2) (SqT.of upd_same)
theorem ok_up (T : Txt K mg A) : FnOk P w K mg base CX0 5 A.f_up A.d_up ["board"] (spUp A) := by
  refine T.F_up.ok sc_up (fun vs H Q E h => ?_) (fun cdv A' outer s H vs Q E hr h => ?_)
  · obtain ⟨H0, b, s, nw, y, rfl, _⟩ := h; rfl
  · obtain ⟨H0, b, s, nw, y, rfl, B, G, q⟩ := h
    refine ⟨_, (pss_cons (ps_if (pt_not (pt_val (pe_meth0 (pv 0) T.cl_Board T.m_running (ok_running T) (hr.mono (by decide)) (b_running T) .nil pass0)))
      (pss_one (ps_ret (pe_lst (pa_cons (pe_un un_neg pe_int) pa_nil))))
      pss_nil)
      (pss_cons (ps_asg (pe_call (ok_first_called T) hr rfl T.g_first_called T.F_first_called.kp (b_first_called T) .nil pass0 (pa_cons (pv 0) pa_nil)) (pg_tup (by rfl) (pgs_cons (pg_name (i := 1) sc_up.nd rfl (Or.inl rfl)) (pgs_cons (pg_name (i := 2) sc_up.nd rfl (Or.inl rfl)) pgs_nil))))
      (pss_cons (ps_set (i := 3) sc_up.nd rfl (Or.inl rfl) (pe_cst rfl T.c_SECONDS))
      (pss_cons (ps_if (pt_cmpR op_eq (pe_meth0 (pv 0) T.cl_Board T.m_tried_last (ok_tried_last T) (hr.mono (by decide)) (b_tried_last T) .nil pass0) (pv 1) (nomark _))
      (pss_one (ps_set (i := 3) sc_up.nd rfl (Or.inl rfl) (pe_cst rfl T.c_OWN_SECONDS)))
      pss_nil)
      (pss_one (ps_ret (pe_lst (pa_cons (pv 1) (pa_cons (pv 2) (pa_cons (pv 3) (pa_cons (pe_op op_add (pe_meth0 (pe_meth (pv 0) T.cl_Board T.m_part_now (ok_part_now T) (hr.mono (by decide)) (b_part_now T) .nil pass0 (pa_cons (pv 1) pa_nil)) T.cl_Part T.m_made (ok_made T) (hr.mono (by decide)) (b_made T) .nil pass0) pe_int) (pa_cons (pe_fld (pv 0) rfl) pa_nil)))))))))))), ?_⟩
    refine s_if (t_not (t_b (vb_running B (v_var rfl)))) (fun e => ?_) (fun e => ?_)
    · have e1 := not_t e
      have eu := G.up_none (off_or e1)
      refine s_retL (a1 (v_neg v_c) a0) (by show 1 ≤ 100; decide) fun p hp => q p _ (same_new hp) hp ?_
      rw [upd_same]
      unfold Kg59.called
      rw [eu]
      rfl
    · have e1 := not_f e
      obtain ⟨hb, hl⟩ := on_or G e1
      obtain ⟨i, r, eo, eu, hi, h3⟩ := G.up_some hb hl
      refine s_unp (n_first B ⟨hb, hl, G.n24⟩ eo (v_var rfl)) fun H1 s1 => ?_
      have B1 := B.mono s1
      have fin : ∀ z : Int, z = ((if s.last = some i then 120 else 60 : Nat) : Int) → ∀ p H2, Same H H2 → H p = none → H2 p = some (.lst [.int i, .int (s.liftOf i s.lift).next, .int z, .int ((s.liftOf i s.lift).tries.length + 1), .int (liftI s)]) → Q (.ref p) H2 := fun z ez p H2 s2 hp e2 => by
        refine q p H2 s2 hp (e2.trans (congrArg (fun l => some (HO.lst l)) ?_))
        unfold Kg59.called
        rw [eu, ez, liftI_on hb]
        rfl
      dsimp only [tSeq]
      refine s_set (v := .int 60) v_c ?_
      have lst : ∀ z : Int, ValA (tCons (tVar 1) (tCons (tVar 2) (tCons (tVar 3) (tCons (tOp (rI0 fun i j => .int (i + j)) (tMeth A.Part "made" (spMade A.Part) [] E0 (tMeth A.Board "part_now" (spPartNow A) [] E0 (tVar 0) (tCons (tVar 1) tNil)) tNil) (tC (.int 1))) (tCons (tFld K (tVar 0) "lift") tNil)))))
          [some (.ref b), some (.int i), some (.int (s.liftOf i s.lift).next), some (.int z)] H1 [.int i, .int (s.liftOf i s.lift).next, .int z, .int ((s.liftOf i s.lift).tries.length + 1), .int (liftI s)] := fun z =>
        a1 (v_var rfl) (a1 (v_var rfl) (a1 (v_var rfl) (a1 (v_add (vm_made (B1.part s.lift i hl hi) (vb_part_now B1 (v_var rfl) (v_var (v := .int i) rfl) hb hl hi)) v_c) (a1 (bf_lift T B1 (v_var rfl)) a0))))
      have ti : (optI (triedLast s nw) = (i : Int)) ↔ s.last = some i := by
        rw [G.lastOk hb hl]
        cases triedLast s nw with
        | none => constructor
                  · intro z; have z : (-1 : Int) = i := z; omega
                  · intro z; cases z
        | some j => constructor
                    · intro z; have z : (j : Int) = i := z; have : j = i := by omega
                      rw [this]
                    · intro z; have z : j = i := Option.some.inj z
                      rw [z]; rfl
      dsimp only [tSeq]
      refine s_if (t_v (v_eq (vb_tried_last B1 (v_var rfl)) (v_var (v := .int i) rfl))) (fun e => ?_) (fun e => ?_)
      · have e2 : s.last = some i := ti.mp (of_decide_eq_true e)
        refine s_set (v := .int 120) v_c ?_
        exact s_retL (lst 120) (by show 5 ≤ 100; decide) fun p hp => fin 120 (by rw [if_pos e2]; rfl) p _ (s1.trans (same_new hp)) (s1.free hp) upd_same
      · have e2 : ¬ s.last = some i := fun z => of_decide_eq_false e (ti.mpr z)
        dsimp only [tNext]
        exact s_retL (lst 60) (by show 5 ≤ 100; decide) fun p hp => fin 60 (by rw [if_neg e2]; rfl) p _ (s1.trans (same_new hp)) (s1.free hp) upd_same
end
end BC
/-! BcOps1 -/
/-! The calls order, try, reverse, change. -/
namespace BC
open PySem PySem.Spec PyProof.Rows L2

/-- how a call ends: the state and the answer are the specification's -/
def Post (A : Adr) (H0 : Hp) (b : Addr) (s : Kg59.State) (c : Kg59.Call) (Q : VK) : Prop := ∀ p H' nw' y', BoardAt A.Board A.Part H0 H' b (Kg59.spec s c).1 nw' y' → Good (Kg59.spec s c).1 nw' → H0 p = none → H' p = some (.lst (ansL (Kg59.spec s c).2)) → Q (.ref p) H'
def spTry (A : Adr) : Sp := fun vs H Q _ => ∃ H0 b s nw y g, vs = [.ref b, .int g] ∧ BoardAt A.Board A.Part H0 H b s nw y ∧ Good s nw ∧ Post A H0 b s (.try_ g) Q
def spTurnRound (A : Adr) : Sp := fun vs H Q _ => ∃ H0 b s nw y, vs = [.ref b] ∧ BoardAt A.Board A.Part H0 H b s nw y ∧ Good s nw ∧ Post A H0 b s .reverse Q
def spChange (A : Adr) : Sp := fun vs H Q _ => ∃ H0 b s nw y i n, vs = [.ref b, .int i, .int n] ∧ BoardAt A.Board A.Part H0 H b s nw y ∧ Good s nw ∧ Post A H0 b s (.change i n) Q
def spAhead (A : Adr) : Sp := fun vs H Q _ => ∃ H0 b s nw y, ∃ i : Nat, vs = [.ref b, .int i] ∧ BoardAt A.Board A.Part H0 H b s nw y ∧ Good s nw ∧ s.begun = true ∧ s.lift < 2 ∧ i < s.lifters.length ∧
  ∀ H', Same H H' → Q (.bl (match triedLast s nw with | none => true | some j => ahead s j i)) H'
def spMayAsk (A : Adr) : Sp := fun vs H Q _ => ∃ H0 b s nw y, ∃ i n : Nat, vs = [.ref b, .int i, .int n] ∧ BoardAt A.Board A.Part H0 H b s nw y ∧ Good s nw ∧ s.begun = true ∧ s.lift < 2 ∧ i < s.lifters.length ∧
  ∀ H', Same H H' → Q (.bl (mayP s nw i n)) H'

/-- a test that may lay new objects -/
def AnsS (t : TT) (σ : L2.St) (H : Hp) (k : Bool) : Prop := ∀ Q : Bool → Hp → Prop, (∀ H', Same H H' → Q k H') → t σ H Q
/-- a value, new objects laid on the way -/
def ValS (t : TE) (σ : L2.St) (H : Hp) (v : V) : Prop := ∀ Q : VK, (∀ H', Same H H' → Q v H') → t σ H Q
section
variable {K : PySem.W.Frag} {σ : L2.St} {H : Hp} {te tn : TE} {D : Ends} {u v : V} {t : TT} {t1 t2 : TS}
theorem s_ifS {k : Bool} (h : AnsS t σ H k) (q1 : k = true → ∀ H', Same H H' → t1 D σ H') (q2 : k = false → ∀ H', Same H H' → t2 D σ H') : tIfS t t1 t2 D σ H := h _ fun H' e => by
  cases k with
  | true => exact iteT (q1 rfl H' e)
  | false => exact iteF (q2 rfl H' e)
theorem ts_b {k : Bool} (h : ValS te σ H (.bl k)) : AnsS (tB te) σ H k := fun _ q => h _ fun H' e => ⟨k, rfl, q H' e⟩
theorem ts_not {k : Bool} (h : AnsS t σ H k) : AnsS (tNot t) σ H (!k) := fun _ q => h _ q
/-- len(e) == 0, e a new list -/
theorem ts_len0 {xs : List V} (h : NewL te σ H xs) : AnsS (tTest (tOp rEq (tCB (fun zs H Q => ∃ p ys, zs = [.ref p] ∧ (SqL K H p ys ∨ SqT K H p ys) ∧ Q (.int ys.length) H) (tCons te tNil)) (tC (.int 0)))) σ H (decide (xs.length = 0)) := fun Q q =>
  h _ fun p H' e hp ep => ⟨p, xs, rfl, .inl (SqL.of ep), rfl, _, rfl, by
    have z : decide (V.int (xs.length : Int) = V.int 0) = decide (xs.length = 0) := decide_eq_decide.mpr (int_iff.trans (by omega))
    rw [z]
    exact q H' e⟩
/-- x < (e, ..), tuples of whole numbers -/
theorem ts_ltT {ta : TE} {tz : TA} {p : Addr} {ns ms : List Int} (h : Val ta σ H (.ref p)) (hs : SqT K H p (ns.map V.int)) (k : ValA tz σ H (ms.map V.int)) (hz : ms.length ≤ 100) : ValS (tOp (rLtT K) ta (tTup tz)) σ H (.bl (HT.lexLt ns ms)) := fun _ q =>
  h _ (k _ ⟨by rw [List.length_map]; exact Nat.le_trans hz (by decide), fun t ht => ⟨p, t, ns, ms, rfl, rfl, Same.sqT (same_new ht) hs, SqT.of upd_same, q _ (same_new ht)⟩⟩)
theorem s_retS (h : ValS te σ H v) (q : ∀ H', Same H H' → D.rt v H') : tRet te D σ H := h _ q
end
theorem ans_num (z : Int) : ansL (Kg59.num z) = [.int z] := rfl
theorem whole_map (l : List Nat) : (Kg59.whole l).map V.int = l.map fun n : Nat => V.int n := by
  unfold Kg59.whole
  rw [List.map_map]
  rfl
theorem whole_pairs (f : Nat → Nat) : ∀ l : List Nat, (Kg59.whole (l.flatMap fun i => [i, f i])).map V.int = l.flatMap fun i : Nat => [V.int (i : Int), V.int ((f i : Nat) : Int)]
  | [] => rfl
  | i :: l => by
    have ih := whole_pairs f l
    rw [whole_map] at ih ⊢
    rw [List.flatMap_cons, List.flatMap_cons, List.map_append, ih]
    rfl

section
variable {P : Program} {w : World} {K : PySem.W.Frag} {mg : Str → Option Value} {base : Heap} {A : Adr}
variable {σ : L2.St} {H0 H H' : Hp} {te tb tc : TE} {b : Addr} {s : Kg59.State} {nw : NW} {y : Lay} {D : Ends}

theorem ok_order (T : Txt K mg A) : FnOk P w K mg base CX0 4 A.f_order A.d_order ["board"] (spOrder A) := by
  refine T.F_order.ok sc_order (fun vs H Q E h => ?_) (fun cdv A' outer s H vs Q E hr h => ?_)
  · obtain ⟨H0, b, s, nw, y, rfl, _⟩ := h; rfl
  · obtain ⟨H0, b, s, nw, y, rfl, B, G, q⟩ := h
    refine ⟨_, (pss_cons (ps_if (pt_not (pt_val (pe_meth0 (pv 0) T.cl_Board T.m_running (ok_running T) (hr.mono (by decide)) (b_running T) .nil pass0)))
      (pss_one (ps_ret (pe_lst (pa_cons (pe_un un_neg pe_int) pa_nil))))
      pss_nil)
      (pss_cons (ps_set (i := 1) sc_order.nd rfl (Or.inl rfl) (pe_call (ok_calling_order T) hr rfl T.g_calling_order T.F_calling_order.kp (b_calling_order T) .nil pass0 (pa_cons (pv 0) pa_nil)))
      (pss_cons (ps_set (i := 2) sc_order.nd rfl (Or.inl rfl) (pe_lst (pa_cons (pe_callB call_len_seq (by rfl) T.b_len PySem.boot_len (pa_cons (pv 1) pa_nil)) pa_nil)))
      (pss_cons (ps_for PassesOwn.never rfl (pi_list (pv 1)) (pg_name (i := 3) sc_order.nd rfl (Or.inl rfl))
      (pss_cons (ps_expr (pe_bm PySem.F.plainAttrs_list PySem.F.slot_list_append PySem.F.type_list_append mt_append (pv 2) (pa_cons (pe_ix ix_tup (pv 3) pe_int (fun _ _ => rfl)) pa_nil)))
        (pss_one (ps_expr (pe_bm PySem.F.plainAttrs_list PySem.F.slot_list_append PySem.F.type_list_append mt_append (pv 2) (pa_cons (pe_ix ix_tup (pv 3) pe_int (fun _ _ => rfl)) pa_nil))))))
      (pss_one (ps_ret (pv 2))))))), ?_⟩
    refine s_if (t_not (t_b (vb_running B (v_var rfl)))) (fun e => ?_) (fun e => ?_)
    · refine s_retL (a1 (v_neg v_c) a0) (by show 1 ≤ 100; decide) fun p hp => q p _ (same_new hp) hp ?_
      rw [upd_same, spec_order_off (off_or (not_t e))]
      rfl
    · obtain ⟨hb, hl⟩ := on_or G (not_f e)
      refine ⟨_, rfl, H0, b, s, nw, y, rfl, B, ⟨hb, hl, G.n24⟩, fun pr H1 ts s1 hpr el Rw => ?_⟩
      have lo := order_len G
      have lts : ts.length = s.order.length := by rw [Rw.len, List.length_map]
      dsimp only [tSeq]
      refine s_setL (a1 (v_len (v_var rfl) (SqL.of el)) a0) (by show 1 ≤ 100; decide) fun tp htp => ?_
      refine ⟨_, rfl, pr, rfl, ⟨_, SqL.of (same_new htp _ _ el)⟩, for_list (K := K) (a := pr) (xs := ts.map V.ref) (fun i σ H' => ∃ v : Option V, σ = [some (.ref b), some (.ref pr), some (.ref tp), v] ∧
        H' = upd H1 tp (.lst (V.int (ts.map V.ref).length :: (s.order.take i).flatMap fun i : Nat => [V.int (i : Int), V.int (((s.liftOf i s.lift).next : Nat) : Int)]))) ⟨none, rfl, rfl⟩ ?_ ?_ ?_⟩
      · rintro i σ H' _ ⟨v, _, rfl⟩
        exact SqL.of (same_new htp _ _ el)
      · rintro i x σ H' hx ⟨v, rfl, rfl⟩
        rw [List.getElem?_map] at hx
        cases ei : ts[i]? with
        | none => rw [ei] at hx; cases hx
        | some t =>
          rw [ei] at hx
          obtain rfl : V.ref t = x := Option.some.inj hx
          have hi : i < s.order.length := by rw [← lts]; exact (List.getElem?_eq_some_iff.mp ei).1
          have ej : s.order[i]? = some (s.order[i]) := List.getElem?_eq_getElem hi
          generalize s.order[i] = j at ej
          obtain ⟨t', et', ht⟩ := Rw.get (j := i) (r := rowOf s j) (by rw [List.getElem?_map, ej]; rfl)
          rw [ei] at et'
          obtain rfl : t = t' := Option.some.inj et'
          have nt : t ≠ tp := ne_of_none ht htp
          have lf : ((s.order.take i).flatMap fun i : Nat => [V.int (i : Int), V.int (((s.liftOf i s.lift).next : Nat) : Int)]).length = 2 * (s.order.take i).length := by
            generalize s.order.take i = l
            induction l with
            | nil => rfl
            | cons z l ih => rw [List.flatMap_cons, List.length_append, ih]; show 2 + _ = 2 * (_ + 1); omega
          have lt := List.length_take_le i s.order
          refine s_app (v_var rfl) upd_same (v_ixT (v_var rfl) v_c (SqT.of (by rw [upd_ne nt]; exact ht)) (at_z (j := 3) rfl rfl)) (by rw [List.length_cons, lf]; omega) ?_
          rw [upd_upd]
          refine s_app (v_var rfl) upd_same (v_ixT (v_var rfl) v_c (SqT.of (by rw [upd_ne nt]; exact ht)) (at_z (j := 0) rfl rfl)) (by rw [List.length_append, List.length_cons, lf]; show _ + 1 < 100000; omega) ?_
          rw [upd_upd]
          refine ⟨_, rfl, ?_⟩
          rw [take_one ej, List.flatMap_append, List.append_assoc, List.cons_append]
          rfl
      · rintro σ H' ⟨v, rfl, rfl⟩
        rw [List.length_map, lts, List.take_length]
        refine s_ret (v_var rfl) (q tp _ (s1.trans (same_new htp)) (s1.free htp) ?_)
        rw [upd_same, spec_order_on (not_off hb hl)]
        refine congrArg (fun l => some (HO.lst l)) ?_
        show _ = V.int _ :: (Kg59.whole _).map V.int
        rw [whole_pairs]

theorem ok_try_one (T : Txt K mg A) : FnOk P w K mg base CX0 6 A.f_try_one A.d_try_one ["board", "good"] (spTry A) := by
  refine T.F_try_one.ok sc_try_one (fun vs H Q E h => ?_) (fun cdv A' outer s H vs Q E hr h => ?_)
  · obtain ⟨H0, b, s, nw, y, g, rfl, _⟩ := h; rfl
  · obtain ⟨H0, b, s, nw, y, g, rfl, B, G, q⟩ := h
    refine ⟨_, (pss_cons (ps_if (PW.pt (pw_or (pt_cmpR op_lt (pv 1) pe_int (nomark _)) (pw_or1 (pt_cmpR op_gt (pv 1) (pe_cst rfl T.c_PASSED) (nomark _)))))
      (pss_one (ps_ret (pe_lst (pa_cons (pe_un un_neg pe_int) pa_nil))))
      pss_nil)
      (pss_cons (ps_if (pt_not (pt_val (pe_meth0 (pv 0) T.cl_Board T.m_running (ok_running T) (hr.mono (by decide)) (b_running T) .nil pass0)))
      (pss_one (ps_ret (pe_lst (pa_cons (pe_un un_neg pe_int) pa_nil))))
      pss_nil)
      (pss_cons (ps_asg (pe_call (ok_first_called T) (hr.mono (by decide)) rfl T.g_first_called T.F_first_called.kp (b_first_called T) .nil pass0 (pa_cons (pv 0) pa_nil)) (pg_tup (by rfl) (pgs_cons (pg_name (i := 2) sc_try_one.nd rfl (Or.inl rfl)) (pgs_cons (pg_name (i := 3) sc_try_one.nd rfl (Or.inl rfl)) pgs_nil))))
      (pss_cons (ps_expr (pe_meth (pv 0) T.cl_Board T.m_note_attempt (ok_note_attempt T) hr (b_note_attempt T) .nil pass0 (pa_cons (pv 2) (pa_cons (pv 1) pa_nil))))
      (pss_cons (ps_if (pt_cmpR op_eq (pe_callB call_len_seq (by rfl) T.b_len PySem.boot_len (pa_cons (pe_call (ok_left T) (hr.mono (by decide)) rfl T.g_left T.F_left.kp (b_left T) .nil pass0 (pa_cons (pv 0) pa_nil)) pa_nil)) pe_int (nomark _))
      (pss_one (ps_expr (pe_meth0 (pv 0) T.cl_Board T.m_move_on (ok_move_on T) (hr.mono (by decide)) (b_move_on T) .nil pass0)))
      pss_nil)
      (pss_one (ps_ret (pe_lst (pa_cons (pv 2) (pa_cons (pv 3) (pa_cons (pe_fld (pv 0) rfl) pa_nil))))))))))), ?_⟩
    refine s_if (t_or (t_v (v_lt (v_var rfl) v_c)) (t_v (v_gt (v_var rfl) v_c))) (fun e => ?_) (fun e => ?_)
    · have hw : Kg59.within g 0 2 = false := by
        unfold Kg59.within
        simp only [Bool.or_eq_true, decide_eq_true_eq] at e
        rcases e with e | e <;> simp <;> omega
      unfold Post at q
      rw [spec_try_bad hw] at q
      exact s_retL (a1 (v_neg v_c) a0) (by show 1 ≤ 100; decide) fun p hp => q p _ nw y (B.mono (same_new hp)) G (B.same.free hp) upd_same
    · have hw : 0 ≤ g ∧ g ≤ 2 := by
        simp only [Bool.or_eq_false_iff, decide_eq_false_iff_not] at e
        omega
      have hw2 : Kg59.within g 0 2 = true := by
        unfold Kg59.within
        rw [decide_eq_true hw.1, decide_eq_true hw.2]; rfl
      refine s_if (t_not (t_b (vb_running B (v_var rfl)))) (fun e => ?_) (fun e => ?_)
      · unfold Post at q
        rw [spec_try_off hw2 (G.up_none (off_or (not_t e)))] at q
        exact s_retL (a1 (v_neg v_c) a0) (by show 1 ≤ 100; decide) fun p hp => q p _ nw y (B.mono (same_new hp)) G (B.same.free hp) upd_same
      · obtain ⟨hb, hl⟩ := on_or G (not_f e)
        obtain ⟨i, r, eo, eu, hi, h3⟩ := G.up_some hb hl
        unfold Post at q
        rw [spec_try_on hw2 eu] at q
        refine s_unp (n_first B ⟨hb, hl, G.n24⟩ eo (v_var rfl)) fun H1 s1 => ?_
        have B1 := B.mono s1
        obtain ⟨dx, hbx⟩ := B1.obj
        have eg : g = ((g.toNat : Nat) : Int) := by omega
        refine ⟨_, rfl, b, dx, _, rfl, hbx, bF_note_attempt, _, rfl, _, rfl, H0, b, s, nw, y, i, g.toNat, by rw [← eg]; rfl, B1, hb, hl, hi, by omega, fun H2 B2 => ?_⟩
        have G2 := G.tried hb hl hi h3 (show g.toNat ≤ 2 by omega)
        have R2 : rdy (noted s i g.toNat) := ⟨hb, hl, by rw [noted_len]; exact G.n24⟩
        have fin : ∀ H3, BoardAt A.Board A.Part H0 H3 b (s.tried i g.toNat) (some (i, s.lift)) y → liftI (s.tried i g.toNat) = (s.tried i g.toNat).lift →
            tRet (tLst (tCons (tVar 2) (tCons (tVar 3) (tCons (tFld K (tVar 0) "lift") tNil)))) { nx := fun _ H' => Q .non H', rt := Q } [some (.ref b), some (.int g), some (.int i), some (.int (s.liftOf i s.lift).next)] H3 := fun H3 B3 el => by
          refine s_retL (a1 (v_var rfl) (a1 (v_var rfl) (a1 (bf_lift T B3 (v_var rfl)) a0))) (by show 3 ≤ 100; decide) fun p hp => ?_
          refine q p _ _ y (B3.mono (same_new hp)) G2 (B3.same.free hp) ?_
          rw [upd_same, el]
          rfl
        have on : ∀ t : Kg59.State, t.begun = true → liftI t = t.lift := fun t h => liftI_on h
        refine s_ifS (ts_len0 (n_left B2 R2 (v_var rfl))) (fun e => ?_) (fun e => ?_)
        · intro H3 s3
          have e0 : (noted s i g.toNat).left = [] := by
            have z := of_decide_eq_true e
            rw [List.length_map] at z
            exact List.length_eq_zero_iff.mp z
          have B3 := B2.mono s3
          obtain ⟨d3, hb3⟩ := B3.obj
          have es := settle_on e0 hl
          refine ⟨_, rfl, b, d3, _, rfl, hb3, bF_move_on, H0, b, _, _, y, rfl, B3, fun H4 k4 => ?_⟩
          refine fin H4 (k4 _ ?_ ?_ ?_) ?_
          · rw [tried_is, es]
          · rw [tried_is, es]
          · rw [tried_is, es]
            have b2 : liftI (noted s i g.toNat) = (s.lift : Int) := on _ hb
            rw [b2]
            refine (liftI_on (s := { noted s i g.toNat with lift := (noted s i g.toNat).lift + 1, bar := 0, last := none }) hb).trans ?_
            show ((s.lift + 1 : Nat) : Int) = (s.lift : Int) + 1
            omega
          · rw [tried_is, es]
            exact liftI_on (s := { noted s i g.toNat with lift := (noted s i g.toNat).lift + 1, bar := 0, last := none }) hb
        · intro H3 s3
          have e0 : (noted s i g.toNat).left ≠ [] := fun z => by
            have k := of_decide_eq_false e
            rw [z] at k
            exact k rfl
          refine fin H3 ?_ ?_
          · rw [tried_is, settle_stay e0]
            exact B2.mono s3
          · rw [tried_is, settle_stay e0]
            exact on _ hb

theorem ok_turn_round (T : Txt K mg A) : FnOk P w K mg base CX0 5 A.f_turn_round A.d_turn_round ["board"] (spTurnRound A) := by
  refine T.F_turn_round.ok sc_turn_round (fun vs H Q E h => ?_) (fun cdv A' outer s H vs Q E hr h => ?_)
  · obtain ⟨H0, b, s, nw, y, rfl, _⟩ := h; rfl
  · obtain ⟨H0, b, s, nw, y, rfl, B, G, q⟩ := h
    refine ⟨_, (pss_cons (ps_set (i := 1) sc_turn_round.nd rfl (Or.inl rfl) (pe_fld (pv 0) rfl))
      (pss_cons (ps_if (pt_cmpR op_eq (pv 1) (pe_cst rfl T.c_NOBODY) (nomark _))
      (pss_one (ps_ret (pe_lst (pa_cons (pe_un un_neg pe_int) pa_nil))))
      pss_nil)
      (pss_cons (ps_set (i := 2) sc_turn_round.nd rfl (Or.inl rfl) (pe_ix ix_list (pe_ix ix_list (pe_fld (pv 0) rfl) (pe_fld (pv 0) rfl) (fun _ _ => rfl)) (pv 1) (fun _ _ => rfl)))
      (pss_cons (ps_if (pt_cmpR op_eq (pe_meth0 (pv 2) T.cl_Part T.m_last_mark (ok_last_mark T) (hr.mono (by decide)) (b_last_mark T) .nil pass0) (pe_cst rfl T.c_PASSED) (nomark _))
      (pss_one (ps_ret (pe_lst (pa_cons (pe_un un_neg pe_int) pa_nil))))
      pss_nil)
      (pss_cons (ps_expr (pe_meth0 (pv 2) T.cl_Part T.m_turn (ok_turn T) hr (b_turn T) .nil pass0))
      (pss_one (ps_ret (pe_lst (pa_cons (pv 1) (pa_cons (pe_meth0 (pv 2) T.cl_Part T.m_last_mark (ok_last_mark T) (hr.mono (by decide)) (b_last_mark T) .nil pass0) pa_nil)))))))))), ?_⟩
    refine s_set (bf_nl T B (v_var rfl)) ?_
    unfold Post at q
    cases nw with
    | none =>
      refine s_if (t_v (v_eq (v_var (v := .int (-1)) rfl) v_c)) (fun e => ?_) (fun e => absurd (of_decide_eq_false e) (fun z => z rfl))
      rw [spec_rev_none (lastTry_none G.newest)] at q
      exact s_retL (a1 (v_neg v_c) a0) (by show 1 ≤ 100; decide) fun p hp => q p _ _ y (B.mono (same_new hp)) G (B.same.free hp) upd_same
    | some z =>
      obtain ⟨hi, hk, _⟩ := G.newest
      obtain ⟨t, ht, elt⟩ := lastTry_some G.newest
      have gb := ((G.cap z.1 z.2 hk hi).each t (List.mem_of_getLast? ht)).2.2.1
      refine s_if (t_v (v_eq (v_var (v := .int z.1) rfl) v_c)) (fun e => ?_) (fun e => ?_)
      · have e1 : (z.1 : Int) = -1 := of_decide_eq_true e
        omega
      · dsimp only [tSeq, tNext]
        refine s_set (v_part T B (v_var rfl) hk hi (bf_nk T B (v_var rfl)) (v_var (v := .int z.1) rfl) rfl rfl) ?_
        have Pt := B.part z.2 z.1 hk hi
        have eg : lastG (s.liftOf z.1 z.2) = t.good := by unfold lastG; rw [ht]; rfl
        dsimp only [tSeq]
        refine s_if (t_v (v_eq (v_is (vm_lastG Pt (v_var rfl)) (congrArg (fun n : Nat => V.int n) eg)) v_c)) (fun e => ?_) (fun e => ?_)
        · have e1 : (t.good : Int) = 2 := of_decide_eq_true e
          rw [spec_rev_pass elt (by omega)] at q
          exact s_retL (a1 (v_neg v_c) a0) (by show 1 ≤ 100; decide) fun p hp => q p _ _ y (B.mono (same_new hp)) G (B.same.free hp) upd_same
        · have e1 : ¬ (t.good : Int) = 2 := of_decide_eq_false e
          have g1 : t.good ≤ 1 := by omega
          rw [spec_rev_on elt (by omega)] at q
          obtain ⟨dp, hpp⟩ := Pt.obj
          refine ⟨_, rfl, (y.L z.2 z.1).p, dp, _, rfl, hpp, pF_turn, y.L z.2 z.1, _, t, rfl, Pt, B.ok z.2 z.1 hk hi, ht, g1, fun H1 P1 k1 => ?_⟩
          have B1 := B.part_set hk hi P1 k1
          have eg1 : lastG (turned (s.liftOf z.1 z.2) t) = 1 - t.good := by unfold lastG; rw [turned_last]; rfl
          refine s_retL (a1 (v_var rfl) (a1 (v_is (vm_lastG P1 (v_var rfl)) (congrArg (fun n : Nat => V.int n) eg1)) a0)) (by show 2 ≤ 100; decide) fun p hp => ?_
          exact q p _ _ y (B1.mono (same_new hp)) (G.turn ht g1) (B1.same.free hp) upd_same

theorem ok_last_comes_ahead (T : Txt K mg A) : FnOk P w K mg base CX0 2 A.f_last_comes_ahead A.d_last_comes_ahead ["board", "lifter"] (spAhead A) := by
  refine T.F_last_comes_ahead.ok sc_last_comes_ahead (fun vs H Q E h => ?_) (fun cdv A' outer s H vs Q E hr h => ?_)
  · obtain ⟨H0, b, s, nw, y, i, rfl, _⟩ := h; rfl
  · obtain ⟨H0, b, s, nw, y, i, rfl, B, G, hb, hl, hi, q⟩ := h
    refine ⟨_, (pss_cons (ps_set (i := 2) sc_last_comes_ahead.nd rfl (Or.inl rfl) (pe_meth0 (pv 0) T.cl_Board T.m_tried_last (ok_tried_last T) hr (b_tried_last T) .nil pass0))
      (pss_cons (ps_if (pt_cmpR op_eq (pv 2) (pe_cst rfl T.c_NOBODY) (nomark _))
      (pss_one (ps_ret pe_bl))
      pss_nil)
      (pss_cons (ps_set (i := 3) sc_last_comes_ahead.nd rfl (Or.inl rfl) (pe_meth (pv 0) T.cl_Board T.m_part_now (ok_part_now T) hr (b_part_now T) .nil pass0 (pa_cons (pv 2) pa_nil)))
      (pss_cons (ps_set (i := 4) sc_last_comes_ahead.nd rfl (Or.inl rfl) (pe_op op_sub (pe_meth0 (pv 3) T.cl_Part T.m_made (ok_made T) hr (b_made T) .nil pass0) pe_int))
      (pss_cons (ps_set (i := 5) sc_last_comes_ahead.nd rfl (Or.inl rfl) (pe_meth (pv 0) T.cl_Board T.m_part_now (ok_part_now T) hr (b_part_now T) .nil pass0 (pa_cons (pv 1) pa_nil)))
      (pss_cons (ps_set (i := 6) sc_last_comes_ahead.nd rfl (Or.inl rfl) (pe_tup (pa_cons (pv 4) (pa_cons (pe_meth (pv 3) T.cl_Part T.m_moment (ok_moment T) hr (b_moment T) .nil pass0 (pa_cons (pv 4) pa_nil)) (pa_cons (pv 2) pa_nil)))))
      (pss_one (ps_ret (pe_cmpR (op_ltT hr.units0) (pv 6) (pe_tup (pa_cons (pe_meth0 (pv 5) T.cl_Part T.m_made (ok_made T) hr (b_made T) .nil pass0) (pa_cons (pe_meth (pv 5) T.cl_Part T.m_moment (ok_moment T) hr (b_moment T) .nil pass0 (pa_cons (pe_meth0 (pv 5) T.cl_Part T.m_made (ok_made T) hr (b_made T) .nil pass0) pa_nil)) (pa_cons (pv 1) pa_nil)))) (nomark _)))))))))), ?_⟩
    refine s_set (vb_tried_last B (v_var rfl)) ?_
    cases c : triedLast s nw with
    | none =>
      rw [c] at q
      dsimp only [tSeq]
      exact s_if (t_v (v_eq (v_var (v := .int (-1)) rfl) v_c)) (fun e => q H (Same.refl H)) (fun e => absurd (of_decide_eq_false e) (fun z => z rfl))
    | some j =>
      rw [c] at q
      have hj := G.tried_lt c
      have hm : 1 ≤ (s.liftOf j s.lift).tries.length := by
        cases nw with
        | none => cases c
        | some z =>
          obtain ⟨_, hk, t, ht, _⟩ := G.newest
          have c : (if s.begun = true ∧ z.2 = s.lift then some z.1 else none) = some j := c
          by_cases cc : s.begun = true ∧ z.2 = s.lift
          · rw [if_pos cc] at c
            have e : z.1 = j := Option.some.inj c
            rw [← e, ← cc.2]
            exact List.length_pos_iff.mpr fun z => by rw [z] at ht; cases ht
          · rw [if_neg cc] at c
            cases c
      have Pj := B.part s.lift j hl hj
      have Pi := B.part s.lift i hl hi
      dsimp only [tSeq]
      refine s_if (t_v (v_eq (v_var (v := .int j) rfl) v_c)) (fun e => ?_) (fun e => ?_)
      · have e1 : (j : Int) = -1 := of_decide_eq_true e
        omega
      · dsimp only [tNext]
        refine s_set (vb_part_now B (v_var rfl) (v_var (v := .int j) rfl) hb hl hj) ?_
        refine s_set (v := .int (((s.liftOf j s.lift).tries.length - 1 : Nat) : Int)) (v_is (v_sub (vm_made Pj (v_var rfl)) v_c) (congrArg V.int (by omega))) ?_
        refine s_set (vb_part_now B (v_var rfl) (v_var (v := .int i) rfl) hb hl hi) ?_
        refine s_setT (a1 (v_var rfl) (a1 (vm_moment (m := (s.liftOf j s.lift).tries.length - 1) Pj (v_var rfl) (v_var rfl) (by omega)) (a1 (v_var rfl) a0))) (by show 3 ≤ 100; decide) fun t1 ht1 => ?_
        have s1 := same_new (o := HO.tup [V.int (((s.liftOf j s.lift).tries.length - 1 : Nat) : Int), V.int (mom (s.liftOf j s.lift) ((s.liftOf j s.lift).tries.length - 1) : Int), V.int (optI (some j))]) ht1
        generalize hG : upd H t1 (HO.tup [V.int (((s.liftOf j s.lift).tries.length - 1 : Nat) : Int), V.int (mom (s.liftOf j s.lift) ((s.liftOf j s.lift).tries.length - 1) : Int), V.int (optI (some j))]) = H1 at s1 ⊢
        have e1 : H1 t1 = some (.tup [.int (((s.liftOf j s.lift).tries.length - 1 : Nat) : Int), .int (mom (s.liftOf j s.lift) ((s.liftOf j s.lift).tries.length - 1)), .int j]) := by rw [← hG]; exact upd_same
        have P1 := Pi.mono s1
        have vi : Val (tVar 1) [some (.ref b), some (.int i), some (.int j), some (.ref (y.L s.lift j).p), some (.int (((s.liftOf j s.lift).tries.length - 1 : Nat) : Int)), some (.ref (y.L s.lift i).p), some (.ref t1)] H1 (.int i) := v_var rfl
        refine s_retS (σ := [some (.ref b), some (.int i), some (.int j), some (.ref (y.L s.lift j).p), some (.int (((s.liftOf j s.lift).tries.length - 1 : Nat) : Int)), some (.ref (y.L s.lift i).p), some (.ref t1)]) (ts_ltT (ns := [(((s.liftOf j s.lift).tries.length - 1 : Nat) : Int), (mom (s.liftOf j s.lift) ((s.liftOf j s.lift).tries.length - 1) : Int), (j : Int)])
          (ms := [((s.liftOf i s.lift).tries.length : Int), (mom (s.liftOf i s.lift) (s.liftOf i s.lift).tries.length : Int), (i : Int)]) (v_var (i := 6) rfl) (SqT.of e1)
          (a1 (vm_made P1 (v_var (i := 5) rfl)) (a1 (vm_moment P1 (v_var (i := 5) rfl) (vm_made P1 (v_var (i := 5) rfl)) (Nat.le_refl _)) (a1 vi a0))) (by show 3 ≤ 100; decide)) fun H2 s2 => ?_
        rw [lexLt_lx]
        exact q _ (s1.trans s2)
theorem ok_may_ask (T : Txt K mg A) : FnOk P w K mg base CX0 4 A.f_may_ask A.d_may_ask ["board", "lifter", "weight"] (spMayAsk A) := by
  refine T.F_may_ask.ok sc_may_ask (fun vs H Q E h => ?_) (fun cdv A' outer s H vs Q E hr h => ?_)
  · obtain ⟨H0, b, s, nw, y, i, n, rfl, _⟩ := h; rfl
  · obtain ⟨H0, b, s, nw, y, i, n, rfl, B, G, hb, hl, hi, q⟩ := h
    refine ⟨_, (pss_cons (ps_if (pt_cmpR op_lt (pv 2) (pe_meth0 (pe_meth (pv 0) T.cl_Board T.m_part_now (ok_part_now T) (hr.mono (by decide)) (b_part_now T) .nil pass0 (pa_cons (pv 1) pa_nil)) T.cl_Part T.m_needs (ok_needs T) hr (b_needs T) .nil pass0) (nomark _))
      (pss_one (ps_ret pe_bl))
      pss_nil)
      (pss_cons (ps_set (i := 3) sc_may_ask.nd rfl (Or.inl rfl) (pe_meth0 (pv 0) T.cl_Board T.m_bar (ok_bar T) hr (b_bar T) .nil pass0))
      (pss_cons (ps_if (pt_cmpR op_eq (pv 2) (pv 3) (nomark _))
      (pss_one (ps_ret (pe_call (ok_last_comes_ahead T) (hr.mono (by decide)) rfl T.g_last_comes_ahead T.F_last_comes_ahead.kp (b_last_comes_ahead T) .nil pass0 (pa_cons (pv 0) (pa_cons (pv 1) pa_nil)))))
      pss_nil)
      (pss_one (ps_ret (pe_cmpR op_gt (pv 2) (pv 3) (nomark _))))))), ?_⟩
    unfold mayP at q
    have Pi := B.part s.lift i hl hi
    refine s_if (t_v (v_lt (v_var (v := .int n) rfl) (vm_needs Pi (vb_part_now B (v_var rfl) (v_var (v := .int i) rfl) hb hl hi)))) (fun e => ?_) (fun e => ?_)
    · have e1 : n < needs (s.liftOf i s.lift) := by have := of_decide_eq_true e; omega
      rw [if_pos e1] at q
      exact q H (Same.refl H)
    · have e1 : ¬ n < needs (s.liftOf i s.lift) := by have := of_decide_eq_false e; omega
      rw [if_neg e1] at q
      dsimp only [tSeq, tNext]
      refine s_set (vb_bar B (v_var rfl) hb hl fun j c => G.tried_lt c) ?_
      refine s_if (t_v (v_eq (v_var (v := .int n) rfl) (v_var rfl))) (fun e => ?_) (fun e => ?_)
      · have e2 : n = barOf s nw := by have := of_decide_eq_true e; omega
        rw [if_pos e2] at q
        exact ⟨_, rfl, _, rfl, H0, b, s, nw, y, i, rfl, B, G, hb, hl, hi, fun H1 s1 => q H1 s1⟩
      · have e2 : ¬ n = barOf s nw := by have := of_decide_eq_false e; omega
        rw [if_neg e2] at q
        dsimp only
        refine s_ret (v_is (v_gt (v_var (v := .int n) rfl) (v_var rfl)) ?_) (q H (Same.refl H))
        exact congrArg V.bl (decide_eq_decide.mpr (by omega))
theorem ok_change (T : Txt K mg A) : FnOk P w K mg base CX0 5 A.f_change A.d_change ["board", "lifter", "weight"] (spChange A) := by
  refine T.F_change.ok sc_change (fun vs H Q E h => ?_) (fun cdv A' outer s H vs Q E hr h => ?_)
  · obtain ⟨H0, b, s, nw, y, i, n, rfl, _⟩ := h; rfl
  · obtain ⟨H0, b, s, nw, y, i, n, rfl, B, G, q⟩ := h
    refine ⟨_, (pss_cons (ps_if (PW.pt (pw_or (pt_not (pt_val (pe_meth (pv 0) T.cl_Board T.m_knows (ok_knows T) (hr.mono (by decide)) (b_knows T) .nil pass0 (pa_cons (pv 1) pa_nil)))) (pw_or1 (pt_not (pt_val (pe_call (ok_right_weight T) (hr.mono (by decide)) rfl T.g_right_weight T.F_right_weight.kp (b_right_weight T) .nil pass0 (pa_cons (pv 2) pa_nil)))))))
      (pss_one (ps_ret (pe_lst (pa_cons (pe_un un_neg pe_int) pa_nil))))
      pss_nil)
      (pss_cons (ps_if (pt_not (pt_val (pe_meth0 (pv 0) T.cl_Board T.m_running (ok_running T) (hr.mono (by decide)) (b_running T) .nil pass0)))
      (pss_one (ps_ret (pe_lst (pa_cons (pe_un un_neg pe_int) pa_nil))))
      pss_nil)
      (pss_cons (ps_set (i := 3) sc_change.nd rfl (Or.inl rfl) (pe_meth (pv 0) T.cl_Board T.m_part_now (ok_part_now T) (hr.mono (by decide)) (b_part_now T) .nil pass0 (pa_cons (pv 1) pa_nil)))
      (pss_cons (ps_if (pt_cmpR op_eq (pe_meth0 (pv 3) T.cl_Part T.m_made (ok_made T) (hr.mono (by decide)) (b_made T) .nil pass0) (pe_cst rfl T.c_ATTEMPTS) (nomark _))
      (pss_one (ps_ret (pe_lst (pa_cons (pe_un un_neg pe_int) pa_nil))))
      pss_nil)
      (pss_cons (ps_if (pt_cmpR op_eq (pe_fld (pv 3) rfl) (pe_cst rfl T.c_CHANGES) (nomark _))
      (pss_one (ps_ret (pe_lst (pa_cons (pe_un un_neg pe_int) pa_nil))))
      pss_nil)
      (pss_cons (ps_if (pt_not (pt_val (pe_call (ok_may_ask T) hr rfl T.g_may_ask T.F_may_ask.kp (b_may_ask T) .nil pass0 (pa_cons (pv 0) (pa_cons (pv 1) (pa_cons (pv 2) pa_nil))))))
      (pss_one (ps_ret (pe_lst (pa_cons (pe_un un_neg pe_int) pa_nil))))
      pss_nil)
      (pss_cons (ps_expr (pe_meth (pv 3) T.cl_Part T.m_change_to (ok_change_to T) (hr.mono (by decide)) (b_change_to T) .nil pass0 (pa_cons (pv 2) pa_nil)))
      (pss_cons (ps_asg (pe_call (ok_first_called T) hr rfl T.g_first_called T.F_first_called.kp (b_first_called T) .nil pass0 (pa_cons (pv 0) pa_nil)) (pg_tup (by rfl) (pgs_cons (pg_name (i := 4) sc_change.nd rfl (Or.inl rfl)) (pgs_cons (pg_name (i := 5) sc_change.nd rfl (Or.inl rfl)) pgs_nil))))
      (pss_one (ps_ret (pe_lst (pa_cons (pe_fld (pv 3) rfl) (pa_cons (pv 4) (pa_cons (pv 5) pa_nil)))))))))))))), ?_⟩
    unfold Post at q
    have rw_ : ∀ σ : L2.St, σ[2]? = some (some (.int n)) → Val (tCall (spRight 1 500) [] E0 (tCons (tVar 2) tNil)) σ H (.bl (Kg59.within n 1 500)) := fun σ h Q q => ⟨_, h, n, rfl, q⟩
    have fail : ∀ (z : Int) (σ : L2.St), Kg59.spec s (.change i n) = (s, Kg59.num (-z)) → tRet (tLst (tCons (tUn (rU fun i => .int (-i)) (tC (.int z))) tNil)) { nx := fun _ H' => Q .non H', rt := Q } σ H := fun z σ e => by
      rw [e] at q
      exact s_retL (a1 (v_neg v_c) a0) (by show 1 ≤ 100; decide) fun p hp => q p _ nw y (B.mono (same_new hp)) G (B.same.free hp) upd_same
    refine s_if (t_or (t_not (t_b (vb_knows B (v_var rfl) (v_var (v := .int i) rfl)))) (t_not (t_b (rw_ _ rfl)))) (fun e => ?_) (fun e => ?_)
    · refine fail 1 _ (spec_change_bad ?_)
      cases h1 : Kg59.isLifter s i <;> cases h2 : Kg59.within n 1 500 <;> rw [h1, h2] at e <;> first | rfl | cases e
    · have hw : (Kg59.isLifter s i && Kg59.within n 1 500) = true := by
        cases h1 : Kg59.isLifter s i <;> cases h2 : Kg59.within n 1 500 <;> rw [h1, h2] at e <;> first | rfl | cases e
      have hw1 := hw
      unfold Kg59.isLifter Kg59.within at hw1
      simp only [Bool.and_eq_true, decide_eq_true_eq] at hw1
      have hi : i.toNat < s.lifters.length := by omega
      have ei : i = ((i.toNat : Nat) : Int) := by omega
      have en : n = ((n.toNat : Nat) : Int) := by omega
      refine s_if (t_not (t_b (vb_running B (v_var rfl)))) (fun e => ?_) (fun e => ?_)
      · exact fail 4 _ (spec_change_off hw (off_or (not_t e)))
      · obtain ⟨hb, hl⟩ := on_or G (not_f e)
        have no := not_off hb hl
        have Pi := B.part s.lift i.toNat hl hi
        have ca := G.cap i.toNat s.lift hl hi
        have c3 := ca.len
        have c2 := ca.chg
        dsimp only [tSeq, tNext]
        refine s_set (vb_part_now B (v_var rfl) (v_var (v := .int i.toNat) (by rw [← ei]; rfl)) hb hl hi) ?_
        refine s_if (t_v (v_eq (vm_made Pi (v_var rfl)) v_c)) (fun e => ?_) (fun e => ?_)
        · have e1 : ((s.liftOf i.toNat s.lift).tries.length : Int) = 3 := of_decide_eq_true e
          exact fail 5 _ (spec_change_done hw no (by omega))
        · have e1 : ¬ ((s.liftOf i.toNat s.lift).tries.length : Int) = 3 := of_decide_eq_false e
          have h3 : ¬ 3 ≤ (s.liftOf i.toNat s.lift).tries.length := by omega
          refine s_if (t_v (v_eq (vf_changed T Pi (v_var rfl)) v_c)) (fun e => ?_) (fun e => ?_)
          · have e2 : ((s.liftOf i.toNat s.lift).changes : Int) = 2 := of_decide_eq_true e
            exact fail 6 _ (spec_change_often hw no h3 (by omega))
          · have e2 : ¬ ((s.liftOf i.toNat s.lift).changes : Int) = 2 := of_decide_eq_false e
            have h2 : ¬ 2 ≤ (s.liftOf i.toNat s.lift).changes := by omega
            have may : ∀ σ : L2.St, σ[0]? = some (some (.ref b)) → σ[1]? = some (some (.int i)) → σ[2]? = some (some (.int n)) → ValS (tCall (spMayAsk A) [] E0 (tCons (tVar 0) (tCons (tVar 1) (tCons (tVar 2) tNil)))) σ H (.bl (s.mayAsk i.toNat n.toNat)) := fun σ h0 h1 h2 Q q =>
              ⟨_, h0, _, h1, _, h2, H0, b, s, nw, y, i.toNat, n.toNat, by rw [← ei, ← en]; rfl, B, G, hb, hl, hi, fun H1 s1 => by rw [← may_is G hb hl]; exact q H1 s1⟩
            refine s_ifS (ts_not (ts_b (may _ rfl rfl rfl))) (fun e => ?_) (fun e => ?_)
            · intro H1 s1
              rw [spec_change_not hw no h3 h2 (not_t e)] at q
              exact s_retL (a1 (v_neg v_c) a0) (by show 1 ≤ 100; decide) fun p hp => q p _ nw y (B.mono (s1.trans (same_new hp))) G (B.same.free (s1.free hp)) upd_same
            · intro H1 s1
              have B1 := B.mono s1
              have P1 := B1.part s.lift i.toNat hl hi
              obtain ⟨dp, hpp⟩ := P1.obj
              dsimp only
              refine ⟨_, rfl, (y.L s.lift i.toNat).p, dp, _, rfl, hpp, pF_change_to, _, rfl, y.L s.lift i.toNat, _, n.toNat, by rw [← en]; rfl, P1, B1.ok s.lift i.toNat hl hi, fun H2 P2 k2 => ?_⟩
              have B2 : BoardAt A.Board A.Part H0 H2 b (changed s i.toNat n.toNat) nw y := B1.part_set hl hi P2 k2
              have G2 : Good (changed s i.toNat n.toNat) nw := G.change hb hl hi (by omega) (by omega) (by omega)
              obtain ⟨j, r, eo, eu, hj, _⟩ := G2.up_some hb hl
              rw [spec_change_on hw no h3 h2 (not_f e) eu] at q
              refine s_unp (n_first B2 ⟨hb, hl, G2.n24⟩ eo (v_var rfl)) fun H3 s3 => ?_
              have P3 := P2.mono s3
              refine s_retL (a1 (vf_changed T P3 (v_var rfl)) (a1 (v_var rfl) (a1 (v_var rfl) a0))) (by show 3 ≤ 100; decide) fun p hp => ?_
              exact q p _ nw y (B2.mono (s3.trans (same_new hp))) G2 (B2.same.free (s3.free hp)) upd_same
end
end BC
/-! BcOps2 -/
/-! The calls begin, ask, start, card. -/
namespace BC
open PySem PySem.Spec PyProof.Rows L2

def spRightTeams (K : PySem.W.Frag) : Sp := fun vs H Q _ => ∃ (a : Addr) (ns : List Int), vs = [.ref a] ∧ SqL K H a (ns.map V.int) ∧ Q (.bl (teamsOk ns)) H
def spBegin (A : Adr) : Sp := fun vs H Q _ => ∃ H0 b s nw y a, ∃ ns : List Int, vs = [.ref b, .ref a] ∧ BoardAt A.Board A.Part H0 H b s nw y ∧ Good s nw ∧ H a = some (.lst (ns.map V.int)) ∧ H0 a = none ∧ Post A H0 b s (.begin_ ns) Q
def spAsk (A : Adr) : Sp := fun vs H Q _ => ∃ H0 b s nw y i m n, vs = [.ref b, .int i, .int m, .int n] ∧ BoardAt A.Board A.Part H0 H b s nw y ∧ Good s nw ∧ Post A H0 b s (.ask i m n) Q
def spAllAsked (A : Adr) : Sp := fun vs H Q _ => ∃ H0 b s nw y, vs = [.ref b] ∧ BoardAt A.Board A.Part H0 H b s nw y ∧ Q (.bl (!unasked s)) H
def spStart (A : Adr) : Sp := fun vs H Q _ => ∃ H0 b s nw y, vs = [.ref b] ∧ BoardAt A.Board A.Part H0 H b s nw y ∧ Good s nw ∧ Post A H0 b s .start Q
def spCard (A : Adr) : Sp := fun vs H Q _ => ∃ H0 b s nw y i k, vs = [.ref b, .int i, .int k] ∧ BoardAt A.Board A.Part H0 H b s nw y ∧ Good s nw ∧
  ∀ p H', Same H H' → H p = none → H' p = some (.lst (ansL (Kg59.spec s (.card i k)).2)) → Q (.ref p) H'

section
variable {CB CP : Addr} {H0 H1 H : Hp} {b : Addr} {s : Kg59.State} {nw : NW} {y : Lay}
/-- a lesser frame -/
theorem BoardAt.frame_less (B : BoardAt CB CP H0 H b s nw y) (e : Same H1 H0) : BoardAt CB CP H1 H b s nw y := by
  obtain ⟨h1, h2, h3, h4, h5, h6, h7, h8, h9, h10, h11⟩ := B
  exact ⟨e.trans h1, h2, h3, h4, h5, h6, h7, h8, h9, ⟨e.free h10.1, e.free h10.2.1, e.free h10.2.2.1, e.free h10.2.2.2.1, e.free h10.2.2.2.2⟩, fun k i a hk hi ha => e.free (h11 k i a hk hi ha)⟩
end
section
variable {K : PySem.W.Frag} {σ : L2.St} {H : Hp} {te : TE} {D : Ends}
/-- for x in e, e a list that the body leaves as it is -/
theorem s_forL {g : TG} {tb : TS} {a : Addr} {xs : List V} (h : Val te σ H (.ref a)) (hs : SqL K H a xs) (Pv : Nat → L2.St → Hp → Prop) (h0 : Pv 0 σ H) (hl : ∀ i σ H, i ≤ xs.length → Pv i σ H → SqL K H a xs)
    (hb : ∀ i x σ H, xs[i]? = some x → Pv i σ H → g x σ H fun σ2 H2 => tb { D with nx := Pv (i + 1), ct := Pv (i + 1), bk := D.nx } σ2 H2) (hd : ∀ σ H, Pv xs.length σ H → D.nx σ H) : tFor (iList K te) g tb D σ H :=
  h _ ⟨a, rfl, ⟨_, hs⟩, for_list Pv h0 hl hb hd⟩
end

section
variable {P : Program} {w : World} {K : PySem.W.Frag} {mg : Str → Option Value} {base : Heap} {A : Adr}
variable {σ : L2.St} {H0 H H' : Hp} {te tb tc : TE} {b : Addr} {s : Kg59.State} {nw : NW} {y : Lay} {D : Ends}

theorem c_right_team {te : TE} {n : Int} (h : Val te σ H (.int n)) : Val (tCall (spRight 0 20) [] E0 (tCons te tNil)) σ H (.bl (Kg59.within n 0 20)) := fun _ q => h _ ⟨n, rfl, q⟩
theorem c_right_weight {te : TE} {n : Int} (h : Val te σ H (.int n)) : Val (tCall (spRight 1 500) [] E0 (tCons te tNil)) σ H (.bl (Kg59.within n 1 500)) := fun _ q => h _ ⟨n, rfl, q⟩

theorem ok_right_teams (T : Txt K mg A) : FnOk P w K mg base CX0 2 A.f_right_teams A.d_right_teams ["teams"] (spRightTeams K) := by
  refine T.F_right_teams.ok sc_right_teams (fun vs H Q E h => ?_) (fun cdv A' outer s H vs Q E hr h => ?_)
  · obtain ⟨a, ns, rfl, _⟩ := h; rfl
  · obtain ⟨a, ns, rfl, hS, q⟩ := h
    refine ⟨_, (pss_cons (ps_if (PW.pt (pw_or (pt_cmpR op_lt (pe_callB call_len_seq (by rfl) T.b_len PySem.boot_len (pa_cons (pv 0) pa_nil)) pe_int (nomark _)) (pw_or1 (pt_cmpR op_gt (pe_callB call_len_seq (by rfl) T.b_len PySem.boot_len (pa_cons (pv 0) pa_nil)) (pe_cst rfl T.c_MOST_LIFTERS) (nomark _)))))
      (pss_one (ps_ret pe_bl))
      pss_nil)
      (pss_cons (ps_for PassesOwn.never rfl (pi_list (pv 0)) (pg_name (i := 1) sc_right_teams.nd rfl (Or.inl rfl))
      (pss_one (ps_if (pt_not (pt_val (pe_call (ok_right_team T) hr rfl T.g_right_team T.F_right_team.kp (b_right_team T) .nil pass0 (pa_cons (pv 1) pa_nil))))
        (pss_one (ps_ret pe_bl))
        pss_nil)))
      (pss_one (ps_ret pe_bl)))), ?_⟩
    have vl : Val (tCB (fun zs H Q => ∃ p ys, zs = [.ref p] ∧ (SqL K H p ys ∨ SqT K H p ys) ∧ Q (.int ys.length) H) (tCons (tVar 0) tNil)) (L2.start ["teams", "team"] [.ref a]) H (.int ns.length) := by
      have z := v_len (σ := L2.start ["teams", "team"] [.ref a]) (te := tVar 0) (v_var rfl) hS
      rw [List.length_map] at z
      exact z
    refine s_if (t_or (t_v (v_lt vl v_c)) (t_v (v_gt vl v_c))) (fun e => ?_) (fun e => ?_)
    · have h0 : teamsOk ns = false := by
        unfold teamsOk
        simp only [Bool.or_eq_true, decide_eq_true_eq] at e
        have : (decide (1 ≤ ns.length) && decide (ns.length ≤ 24)) = false := by
          rcases e with e | e <;> simp <;> omega
        rw [this, Bool.and_false]
      rw [h0] at q
      exact q
    · have h1 : 1 ≤ ns.length ∧ ns.length ≤ 24 := by
        simp only [Bool.or_eq_false_iff, decide_eq_false_iff_not] at e
        omega
      have hk : teamsOk ns = ns.all fun z => Kg59.within z 0 20 := by
        unfold teamsOk
        rw [decide_eq_true h1.1, decide_eq_true h1.2, Bool.and_self, Bool.and_true]
      rw [hk] at q
      dsimp only [tSeq, tNext]
      refine s_forL (v_var rfl) hS (fun i σ H' => ∃ v : Option V, σ = [some (.ref a), v] ∧ H' = H ∧ (ns.take i).all (fun z => Kg59.within z 0 20) = true) ⟨none, rfl, rfl, rfl⟩ ?_ ?_ ?_
      · rintro i σ H' _ ⟨v, _, rfl, _⟩
        exact hS
      · rintro i x σ H' hx ⟨v, rfl, rfl, ha⟩
        rw [List.getElem?_map] at hx
        cases ei : ns[i]? with
        | none => rw [ei] at hx; cases hx
        | some z =>
          rw [ei] at hx
          obtain rfl : V.int z = x := Option.some.inj hx
          refine s_if (t_not (t_b (c_right_team (v_var (v := .int z) rfl)))) (fun e => ?_) (fun e => ?_)
          · have hz := not_t e
            have hall : (ns.all fun z => Kg59.within z 0 20) = false := by
              rw [List.all_eq_false]
              exact ⟨z, List.mem_of_getElem? ei, by rw [hz]; exact Bool.false_ne_true⟩
            rw [hall] at q
            exact q
          · refine ⟨some (.int z), rfl, rfl, ?_⟩
            rw [take_one ei, List.all_append, ha, Bool.true_and]
            simp only [List.all_cons, List.all_nil, Bool.and_true]
            exact not_f e
      · rintro σ H' ⟨v, rfl, rfl, ha⟩
        rw [List.length_map, List.take_length] at ha
        rw [ha] at q
        exact q

theorem ok_begin (T : Txt K mg A) : FnOk P w K mg base CX0 4 A.f_begin A.d_begin ["board", "teams"] (spBegin A) := by
  refine T.F_begin.ok sc_begin (fun vs H Q E h => ?_) (fun cdv A' outer s H vs Q E hr h => ?_)
  · obtain ⟨H0, b, s, nw, y, a, ns, rfl, _⟩ := h; rfl
  · obtain ⟨H0, b, s, nw, y, a, ns, rfl, B, G, ha, h0a, q⟩ := h
    refine ⟨_, (pss_cons (ps_if (pt_not (pt_val (pe_call (ok_right_teams T) (hr.mono (by decide)) rfl T.g_right_teams T.F_right_teams.kp (b_right_teams T) .nil pass0 (pa_cons (pv 1) pa_nil))))
      (pss_one (ps_ret (pe_lst (pa_cons (pe_un un_neg pe_int) pa_nil))))
      pss_nil)
      (pss_cons (ps_expr (pe_meth (pv 0) T.cl_Board T.m_renew (ok_renew T) hr (b_renew T) .nil pass0 (pa_cons (pv 1) pa_nil)))
      (pss_one (ps_ret (pe_lst (pa_cons (pe_callB call_len_seq (by rfl) T.b_len PySem.boot_len (pa_cons (pv 1) pa_nil)) pa_nil)))))), ?_⟩
    unfold Post at q
    have rt : ∀ σ : L2.St, σ[1]? = some (some (.ref a)) → Val (tCall (spRightTeams K) [] E0 (tCons (tVar 1) tNil)) σ H (.bl (teamsOk ns)) := fun σ h Q q => ⟨_, h, a, ns, rfl, SqL.of ha, q⟩
    refine s_if (t_not (t_b (rt _ rfl))) (fun e => ?_) (fun e => ?_)
    · rw [spec_begin_bad (not_t e)] at q
      exact s_retL (a1 (v_neg v_c) a0) (by show 1 ≤ 100; decide) fun p hp => q p _ nw y (B.mono (same_new hp)) G (B.same.free hp) upd_same
    · have hk := not_f e
      rw [spec_begin_ok hk] at q
      unfold teamsOk Kg59.within at hk
      simp only [Bool.and_eq_true, List.all_eq_true, decide_eq_true_eq] at hk
      obtain ⟨dx, hb⟩ := B.obj
      have nab : b ≠ a := ne_of hb ha (by intro z; cases z)
      have s0 : Same (upd H0 a (.lst (ns.map V.int))) H := fun c o e => by
        by_cases z : c = a
        · rw [z, upd_same] at e
          rw [z, ← e]
          exact ha
        · rw [upd_ne z] at e
          exact B.same c o e
      refine ⟨_, rfl, b, dx, _, rfl, hb, bF_renew, _, rfl, upd H0 a (.lst (ns.map V.int)), b, dx, a, _, ns, rfl, s0, by rw [upd_ne nab]; exact B.f0.1, hb, SqL.of ha, hk.2.2, fun z m => (hk.1 z m).1, .inr ⟨_, _, _, _, _, _, rfl⟩, fun H1 y1 B1 => ?_⟩
      have a1' : H1 a = some (.lst (ns.map V.int)) := B1.same _ _ upd_same
      have B2 : BoardAt A.Board A.Part H0 H1 b (fresh ns) none y1 := B1.frame_less (same_new h0a)
      have vl : Val (tCB (fun zs H Q => ∃ p ys, zs = [.ref p] ∧ (SqL K H p ys ∨ SqT K H p ys) ∧ Q (.int ys.length) H) (tCons (tVar 1) tNil)) [some (.ref b), some (.ref a)] H1 (.int ns.length) := by
        have z := v_len (σ := [some (.ref b), some (.ref a)]) (te := tVar 1) (v_var rfl) (SqL.of (K := K) a1')
        rw [List.length_map] at z
        exact z
      refine s_retL (σ := [some (.ref b), some (.ref a)]) (a1 vl a0) (by show 1 ≤ 100; decide) fun p hp => ?_
      exact q p _ none y1 (B2.mono (same_new hp)) (good_fresh hk.2.2) (B2.same.free hp) upd_same

theorem ok_ask (T : Txt K mg A) : FnOk P w K mg base CX0 2 A.f_ask A.d_ask ["board", "lifter", "first", "second"] (spAsk A) := by
  refine T.F_ask.ok sc_ask (fun vs H Q E h => ?_) (fun cdv A' outer s H vs Q E hr h => ?_)
  · obtain ⟨H0, b, s, nw, y, i, m, n, rfl, _⟩ := h; rfl
  · obtain ⟨H0, b, s, nw, y, i, m, n, rfl, B, G, q⟩ := h
    refine ⟨_, (pss_cons (ps_if (PW.pt (pw_or (pt_not (pt_val (pe_meth (pv 0) T.cl_Board T.m_knows (ok_knows T) hr (b_knows T) .nil pass0 (pa_cons (pv 1) pa_nil)))) (pw_or (pt_not (pt_val (pe_call (ok_right_weight T) hr rfl T.g_right_weight T.F_right_weight.kp (b_right_weight T) .nil pass0 (pa_cons (pv 2) pa_nil)))) (pw_or1 (pt_not (pt_val (pe_call (ok_right_weight T) hr rfl T.g_right_weight T.F_right_weight.kp (b_right_weight T) .nil pass0 (pa_cons (pv 3) pa_nil))))))))
      (pss_one (ps_ret (pe_lst (pa_cons (pe_un un_neg pe_int) pa_nil))))
      pss_nil)
      (pss_cons (ps_if (pt_val (pe_meth0 (pv 0) T.cl_Board T.m_begun (ok_begun T) hr (b_begun T) .nil pass0))
      (pss_one (ps_ret (pe_lst (pa_cons (pe_un un_neg pe_int) pa_nil))))
      pss_nil)
      (pss_cons (ps_expr (pe_meth (pe_ix ix_list (pe_ix ix_list (pe_fld (pv 0) rfl) pe_int (fun _ _ => rfl)) (pv 1) (fun _ _ => rfl)) T.cl_Part T.m_ask_for (ok_ask_for T) hr (b_ask_for T) .nil pass0 (pa_cons (pv 2) pa_nil)))
      (pss_cons (ps_expr (pe_meth (pe_ix ix_list (pe_ix ix_list (pe_fld (pv 0) rfl) pe_int (fun _ _ => rfl)) (pv 1) (fun _ _ => rfl)) T.cl_Part T.m_ask_for (ok_ask_for T) hr (b_ask_for T) .nil pass0 (pa_cons (pv 3) pa_nil)))
      (pss_one (ps_ret (pe_lst (pa_cons pe_int pa_nil)))))))), ?_⟩
    unfold Post at q
    have fail : ∀ (z : Int) (σ : L2.St), Kg59.spec s (.ask i m n) = (s, Kg59.num (-z)) → tRet (tLst (tCons (tUn (rU fun i => .int (-i)) (tC (.int z))) tNil)) { nx := fun _ H' => Q .non H', rt := Q } σ H := fun z σ e => by
      rw [e] at q
      exact s_retL (a1 (v_neg v_c) a0) (by show 1 ≤ 100; decide) fun p hp => q p _ nw y (B.mono (same_new hp)) G (B.same.free hp) upd_same
    refine s_if (t_or (t_not (t_b (vb_knows B (v_var rfl) (v_var (v := .int i) rfl)))) (t_or (t_not (t_b (c_right_weight (v_var (v := .int m) rfl)))) (t_not (t_b (c_right_weight (v_var (v := .int n) rfl)))))) (fun e => ?_) (fun e => ?_)
    · refine fail 1 _ (spec_ask_bad ?_)
      cases h1 : Kg59.isLifter s i <;> cases h2 : Kg59.within m 1 500 <;> cases h3 : Kg59.within n 1 500 <;> rw [h1, h2, h3] at e <;> first | rfl | cases e
    · have hw : (Kg59.isLifter s i && (Kg59.within m 1 500 && Kg59.within n 1 500)) = true := by
        cases h1 : Kg59.isLifter s i <;> cases h2 : Kg59.within m 1 500 <;> cases h3 : Kg59.within n 1 500 <;> rw [h1, h2, h3] at e <;> first | rfl | cases e
      have hw1 := hw
      unfold Kg59.isLifter Kg59.within at hw1
      simp only [Bool.and_eq_true, decide_eq_true_eq] at hw1
      have hi : i.toNat < s.lifters.length := by omega
      have ei : i = ((i.toNat : Nat) : Int) := by omega
      have em : m = ((m.toNat : Nat) : Int) := by omega
      have en : n = ((n.toNat : Nat) : Int) := by omega
      dsimp only [tSeq, tNext]
      refine s_if (t_b (vb_begun B (v_var rfl))) (fun e => ?_) (fun e => ?_)
      · exact fail 3 _ (spec_ask_begun hw e)
      · rw [spec_ask_ok hw e] at q
        obtain ⟨l0, _, _, _, hidle⟩ := G.idle e
        have P0 := B.part 0 i.toNat (by decide) hi
        obtain ⟨d0, h0⟩ := P0.obj
        refine v_part T B (v_var rfl) (by decide) hi v_c (v_var (v := .int i) rfl) rfl ei _ ?_
        refine ⟨(y.L 0 i.toNat).p, d0, _, rfl, h0, pF_ask_for, _, rfl, y.L 0 i.toNat, _, m.toNat, by rw [← em]; rfl, P0, B.ok 0 _ (by decide) hi, fun H1 P1 k1 => ?_⟩
        have e0 : (⟨(s.liftOf i.toNat 0).tries, m.toNat, (s.liftOf i.toNat 0).changes⟩ : Kg59.Lift) = ⟨[], m.toNat, 0⟩ := by
          obtain ⟨z1, z2⟩ := hidle i.toNat 0 (by decide) hi
          rw [z1, z2]
        rw [e0] at P1
        have B1 := B.part_set (by decide) hi P1 k1
        have hi1 : i.toNat < (s.put i.toNat 0 ⟨[], m.toNat, 0⟩).lifters.length := by rw [put_len]; exact hi
        have P2 := B1.part 1 i.toNat (by decide) hi1
        obtain ⟨d2, h2⟩ := P2.obj
        refine v_part T B1 (v_var rfl) (by decide) hi1 v_c (v_var (v := .int i) rfl) rfl ei _ ?_
        refine ⟨(y.L 1 i.toNat).p, d2, _, rfl, h2, pF_ask_for, _, rfl, y.L 1 i.toNat, _, n.toNat, by rw [← en]; rfl, P2, B1.ok 1 _ (by decide) hi1, fun H2 P3 k2 => ?_⟩
        have e1 : (⟨((s.put i.toNat 0 ⟨[], m.toNat, 0⟩).liftOf i.toNat 1).tries, n.toNat, ((s.put i.toNat 0 ⟨[], m.toNat, 0⟩).liftOf i.toNat 1).changes⟩ : Kg59.Lift) = ⟨[], n.toNat, 0⟩ := by
          rw [of_put_other (by decide) (by decide) (fun c => by omega)]
          obtain ⟨z1, z2⟩ := hidle i.toNat 1 (by decide) hi
          rw [z1, z2]
        rw [e1] at P3
        have B2 := B1.part_set (by decide) hi1 P3 k2
        have G2 := G.ask (i := i.toNat) (a := m.toNat) (b := n.toNat) e hi (by omega) (by omega) (by omega) (by omega)
        refine s_retL (σ := L2.start ["board", "lifter", "first", "second"] [.ref b, .int i, .int m, .int n]) (a1 v_c a0) (by show 1 ≤ 100; decide) fun p hp => ?_
        exact q p _ nw y (B2.mono (same_new hp)) G2 (B2.same.free hp) upd_same

theorem ok_all_asked (T : Txt K mg A) : FnOk P w K mg base CX0 1 A.f_all_asked A.d_all_asked ["board"] (spAllAsked A) := by
  refine T.F_all_asked.ok sc_all_asked (fun vs H Q E h => ?_) (fun cdv A' outer s H vs Q E hr h => ?_)
  · obtain ⟨H0, b, s, nw, y, rfl, _⟩ := h; rfl
  · obtain ⟨H0, b, s, nw, y, rfl, B, q⟩ := h
    refine ⟨_, (pss_cons (ps_for PassesOwn.never rfl (pi_list (pe_ix ix_list (pe_fld (pv 0) rfl) pe_int (fun _ _ => rfl))) (pg_name (i := 1) sc_all_asked.nd rfl (Or.inl rfl))
      (pss_one (ps_if (pt_cmpR op_eq (pe_fld (pv 1) rfl) pe_int (nomark _))
        (pss_one (ps_ret pe_bl))
        pss_nil)))
      (pss_one (ps_ret pe_bl))), ?_⟩
    have hS : SqL K H (y.pc 0) ((List.range s.lifters.length).map fun i => V.ref (y.L 0 i).p) := SqL.of (B.col 0 (by decide))
    refine s_forL (v_ix (i := 0) (bf_parts T B (v_var rfl)) v_c (SqL.of B.pl) (at_z (j := 0) rfl rfl)) hS (fun i σ H' => ∃ v : Option V, σ = [some (.ref b), v] ∧ H' = H ∧ ∀ j, j < i → (s.liftOf j 0).next ≠ 0) ⟨none, rfl, rfl, fun j z => absurd z (Nat.not_lt_zero _)⟩ ?_ ?_ ?_
    · rintro i σ H' _ ⟨v, _, rfl, _⟩
      exact hS
    · rintro i x σ H' hx ⟨v, rfl, rfl, ha⟩
      have hi : i < s.lifters.length := by
        have z := (List.getElem?_eq_some_iff.mp hx).1
        rw [List.length_map, List.length_range] at z
        exact z
      rw [col_at hi] at hx
      obtain rfl := Option.some.inj hx
      have Pt := B.part 0 i (by decide) hi
      refine s_if (t_v (v_eq (vf_asks T Pt (v_var (v := .ref (y.L 0 i).p) rfl)) v_c)) (fun e => ?_) (fun e => ?_)
      · have e0 : (s.liftOf i 0).next = 0 := by
          have z : ((s.liftOf i 0).next : Int) = 0 := of_decide_eq_true e
          omega
        rw [unasked_of hi e0] at q
        exact q
      · have e0 : (s.liftOf i 0).next ≠ 0 := fun z => by
          have k : ¬ ((s.liftOf i 0).next : Int) = 0 := of_decide_eq_false e
          omega
        refine ⟨some (.ref (y.L 0 i).p), rfl, rfl, fun j hj => ?_⟩
        by_cases z : j = i
        · rw [z]; exact e0
        · exact ha j (by omega)
    · rintro σ H' ⟨v, rfl, rfl, ha⟩
      rw [List.length_map, List.length_range] at ha
      rw [asked_of ha] at q
      exact q

theorem ok_start (T : Txt K mg A) : FnOk P w K mg base CX0 6 A.f_start A.d_start ["board"] (spStart A) := by
  refine T.F_start.ok sc_start (fun vs H Q E h => ?_) (fun cdv A' outer s H vs Q E hr h => ?_)
  · obtain ⟨H0, b, s, nw, y, rfl, _⟩ := h; rfl
  · obtain ⟨H0, b, s, nw, y, rfl, B, G, q⟩ := h
    refine ⟨_, (pss_cons (ps_if (pt_cmpR op_eq (pe_callB call_len_seq (by rfl) T.b_len PySem.boot_len (pa_cons (pe_fld (pv 0) rfl) pa_nil)) pe_int (nomark _))
      (pss_one (ps_ret (pe_lst (pa_cons (pe_un un_neg pe_int) pa_nil))))
      pss_nil)
      (pss_cons (ps_if (pt_val (pe_meth0 (pv 0) T.cl_Board T.m_begun (ok_begun T) (hr.mono (by decide)) (b_begun T) .nil pass0))
      (pss_one (ps_ret (pe_lst (pa_cons (pe_un un_neg pe_int) pa_nil))))
      pss_nil)
      (pss_cons (ps_if (pt_not (pt_val (pe_call (ok_all_asked T) (hr.mono (by decide)) rfl T.g_all_asked T.F_all_asked.kp (b_all_asked T) .nil pass0 (pa_cons (pv 0) pa_nil))))
      (pss_one (ps_ret (pe_lst (pa_cons (pe_un un_neg pe_int) pa_nil))))
      pss_nil)
      (pss_cons (ps_expr (pe_meth0 (pv 0) T.cl_Board T.m_move_on (ok_move_on T) (hr.mono (by decide)) (b_move_on T) .nil pass0))
      (pss_one (ps_ret (pe_call (ok_up T) hr rfl T.g_up T.F_up.kp (b_up T) .nil pass0 (pa_cons (pv 0) pa_nil)))))))), ?_⟩
    unfold Post at q
    have fail : ∀ (z : Int) (σ : L2.St), Kg59.spec s .start = (s, Kg59.num (-z)) → tRet (tLst (tCons (tUn (rU fun i => .int (-i)) (tC (.int z))) tNil)) { nx := fun _ H' => Q .non H', rt := Q } σ H := fun z σ e => by
      rw [e] at q
      exact s_retL (a1 (v_neg v_c) a0) (by show 1 ≤ 100; decide) fun p hp => q p _ nw y (B.mono (same_new hp)) G (B.same.free hp) upd_same
    refine s_if (t_v (v_eq (len_teams B T (v_var rfl)) v_c)) (fun e => ?_) (fun e => ?_)
    · exact fail 2 _ (spec_start_none (by have z : (s.lifters.length : Int) = 0 := of_decide_eq_true e; omega))
    · have hp : s.lifters.length ≠ 0 := fun z => by
        have k : ¬ (s.lifters.length : Int) = 0 := of_decide_eq_false e
        omega
      dsimp only [tSeq, tNext]
      refine s_if (t_b (vb_begun B (v_var rfl))) (fun e => ?_) (fun e => ?_)
      · exact fail 3 _ (spec_start_begun hp e)
      · have va : ∀ σ : L2.St, σ[0]? = some (some (.ref b)) → Val (tCall (spAllAsked A) [] E0 (tCons (tVar 0) tNil)) σ H (.bl (!unasked s)) := fun σ h Q q => ⟨_, h, H0, b, s, nw, y, rfl, B, q⟩
        refine s_if (t_not (t_b (va _ rfl))) (fun e2 => ?_) (fun e2 => ?_)
        · refine fail 4 _ (spec_start_unasked hp e ?_)
          rw [Bool.not_not] at e2
          exact e2
        · rw [Bool.not_not] at e2
          rw [spec_start_ok hp e e2] at q
          obtain ⟨dx, hb⟩ := B.obj
          have l0 := (G.idle e).1
          dsimp only
          refine ⟨_, rfl, b, dx, _, rfl, hb, bF_move_on, H0, b, s, nw, y, rfl, B, fun H1 k1 => ?_⟩
          have B1 := k1 { s with begun := true } rfl rfl (by
            rw [(liftI_wait s).mpr e]
            refine (liftI_on (s := { s with begun := true }) rfl).trans ?_
            show (s.lift : Int) = -1 + 1
            rw [l0]; rfl)
          have G1 := G.start e (by omega) fun i hi => asked_all e2 hi
          refine ⟨_, rfl, H0, b, _, nw, y, rfl, B1, G1, fun p H2 s2 hp2 e2 => ?_⟩
          exact q p H2 nw y (B1.mono s2) G1 (B1.same.free hp2) e2

theorem ok_card (T : Txt K mg A) : FnOk P w K mg base CX0 2 A.f_card A.d_card ["board", "lifter", "lift"] (spCard A) := by
  refine T.F_card.ok sc_card (fun vs H Q E h => ?_) (fun cdv A' outer s H vs Q E hr h => ?_)
  · obtain ⟨H0, b, s, nw, y, i, k, rfl, _⟩ := h; rfl
  · obtain ⟨H0, b, s, nw, y, i, k, rfl, B, G, q⟩ := h
    refine ⟨_, (pss_cons (ps_if (PW.pt (pw_or (pt_not (pt_val (pe_meth (pv 0) T.cl_Board T.m_knows (ok_knows T) hr (b_knows T) .nil pass0 (pa_cons (pv 1) pa_nil)))) (pw_or (pt_cmpR op_lt (pv 2) pe_int (nomark _)) (pw_or1 (pt_cmpR op_gt (pv 2) pe_int (nomark _))))))
      (pss_one (ps_ret (pe_lst (pa_cons (pe_un un_neg pe_int) pa_nil))))
      pss_nil)
      (pss_cons (ps_set (i := 3) sc_card.nd rfl (Or.inl rfl) (pe_ix ix_list (pe_ix ix_list (pe_fld (pv 0) rfl) (pv 2) (fun _ _ => rfl)) (pv 1) (fun _ _ => rfl)))
      (pss_cons (ps_set (i := 4) sc_card.nd rfl (Or.inl rfl) (pe_lst (pa_cons (pe_meth0 (pv 3) T.cl_Part T.m_made (ok_made T) hr (b_made T) .nil pass0) (pa_cons (pe_fld (pv 3) rfl) (pa_cons (pe_fld (pv 3) rfl) pa_nil)))))
      (pss_cons (ps_for PassesOwn.never rfl (pi_range1 (by rfl) T.b_range (pa_cons (pe_meth0 (pv 3) T.cl_Part T.m_made (ok_made T) hr (b_made T) .nil pass0) pa_nil)) (pg_name (i := 5) sc_card.nd rfl (Or.inl rfl))
      (pss_cons (ps_expr (pe_bm PySem.F.plainAttrs_list PySem.F.slot_list_append PySem.F.type_list_append mt_append (pv 4) (pa_cons (pe_ix ix_list (pe_fld (pv 3) rfl) (pv 5) (fun _ _ => rfl)) pa_nil)))
        (pss_one (ps_expr (pe_bm PySem.F.plainAttrs_list PySem.F.slot_list_append PySem.F.type_list_append mt_append (pv 4) (pa_cons (pe_ix ix_list (pe_fld (pv 3) rfl) (pv 5) (fun _ _ => rfl)) pa_nil))))))
      (pss_one (ps_ret (pv 4))))))), ?_⟩
    refine s_if (t_or (t_not (t_b (vb_knows B (v_var rfl) (v_var (v := .int i) rfl)))) (t_or (t_v (v_lt (v_var (v := .int k) rfl) v_c)) (t_v (v_gt (v_var (v := .int k) rfl) v_c)))) (fun e => ?_) (fun e => ?_)
    · have hw : (Kg59.isLifter s i && Kg59.within k 0 1) = false := by
        cases h1 : Kg59.isLifter s i with
        | false => rfl
        | true =>
          rw [h1] at e
          simp only [Bool.not_true, Bool.false_or, Bool.or_eq_true, decide_eq_true_eq] at e
          unfold Kg59.within
          rcases e with e | e <;> simp <;> omega
      rw [spec_card_bad hw] at q
      exact s_retL (a1 (v_neg v_c) a0) (by show 1 ≤ 100; decide) fun p hp => q p _ (same_new hp) hp upd_same
    · have hw : (Kg59.isLifter s i && Kg59.within k 0 1) = true := by
        cases h1 : Kg59.isLifter s i with
        | false => rw [h1] at e; simp at e
        | true =>
          rw [h1] at e
          simp only [Bool.not_true, Bool.false_or, Bool.or_eq_false_iff, decide_eq_false_iff_not] at e
          unfold Kg59.within
          simp; omega
      rw [spec_card_ok hw] at q
      unfold Kg59.isLifter Kg59.within at hw
      simp only [Bool.and_eq_true, decide_eq_true_eq] at hw
      have hi : i.toNat < s.lifters.length := by omega
      have hk : k.toNat < 2 := by omega
      have ei : i = ((i.toNat : Nat) : Int) := by omega
      have ek : k = ((k.toNat : Nat) : Int) := by omega
      have Pt := B.part k.toNat i.toNat hk hi
      have c3 := (G.cap i.toNat k.toNat hk hi).len
      generalize s.liftOf i.toNat k.toNat = x at Pt c3 q
      dsimp only [tSeq, tNext]
      refine s_set (v_part T B (v_var rfl) hk hi (v_var (v := .int k) rfl) (v_var (v := .int i) rfl) ek ei) ?_
      refine s_setL (a1 (vm_made Pt (v_var rfl)) (a1 (vf_asks T Pt (v_var rfl)) (a1 (vf_changed T Pt (v_var rfl)) a0))) (by show 3 ≤ 100; decide) fun tp htp => ?_
      have P1 := Pt.mono (same_new (o := HO.lst [V.int (x.tries.length : Int), V.int (x.next : Int), V.int (x.changes : Int)]) htp)
      refine s_forR (vm_made P1 (v_var rfl)) (by omega) (fun j σ H' => ∃ v : Option V, σ = [some (.ref b), some (.int i), some (.int k), some (.ref (y.L k.toNat i.toNat).p), some (.ref tp), v] ∧
        H' = upd H tp (.lst ([V.int (x.tries.length : Int), V.int (x.next : Int), V.int (x.changes : Int)] ++ (x.tries.take j).flatMap fun t => [V.int (t.weight : Int), V.int (t.good : Int)]))) ⟨none, rfl, rfl⟩ ?_ ?_
      · rintro j σ H' hj ⟨v, rfl, rfl⟩
        obtain ⟨t, et⟩ : ∃ t, x.tries[j]? = some t := ⟨_, List.getElem?_eq_getElem hj⟩
        have lf : ((x.tries.take j).flatMap fun t => [V.int (t.weight : Int), V.int (t.good : Int)]).length = 2 * (x.tries.take j).length := by
          generalize x.tries.take j = l
          induction l with
          | nil => rfl
          | cons z l ih => rw [List.flatMap_cons, List.length_append, ih]; show 2 + _ = 2 * (_ + 1); omega
        have lt := List.length_take_le j x.tries
        have P2 := Pt.mono (same_new (o := HO.lst ([V.int (x.tries.length : Int), V.int (x.next : Int), V.int (x.changes : Int)] ++ (x.tries.take j).flatMap fun t => [V.int (t.weight : Int), V.int (t.good : Int)])) htp)
        refine s_app (v_var rfl) upd_same (v_ix (vf_weights T P2 (v_var rfl)) (v_var rfl) (SqL.of P2.w) (at_z (j := j) rfl (at_w et))) (by rw [List.length_append, lf]; show 3 + _ < 100000; omega) ?_
        rw [upd_upd]
        have P3 := Pt.mono (same_new (o := HO.lst ([V.int (x.tries.length : Int), V.int (x.next : Int), V.int (x.changes : Int)] ++ ((x.tries.take j).flatMap fun t => [V.int (t.weight : Int), V.int (t.good : Int)]) ++ [V.int (t.weight : Int)])) htp)
        refine s_app (v_var rfl) upd_same (v_ix (vf_marks T P3 (v_var rfl)) (v_var rfl) (SqL.of P3.k) (at_z (j := j) rfl (at_k et))) (by rw [List.length_append, List.length_append, lf]; show 3 + _ + 1 < 100000; omega) ?_
        rw [upd_upd]
        refine ⟨_, rfl, ?_⟩
        rw [take_one et, List.flatMap_append, List.append_assoc, List.append_assoc]
        rfl
      · rintro σ H' ⟨v, rfl, rfl⟩
        rw [List.take_length]
        refine s_ret (v_var rfl) (q tp _ (same_new htp) htp ?_)
        rw [upd_same]
        refine congrArg (fun l => some (HO.lst l)) ?_
        have wm : ∀ l : List Kg59.Try, (l.flatMap fun t => [t.weight, t.good]).map (fun n : Nat => V.int n) = l.flatMap fun t => [V.int (t.weight : Int), V.int (t.good : Int)] := by
          intro l
          induction l with
          | nil => rfl
          | cons z l ih => rw [List.flatMap_cons, List.flatMap_cons, List.map_append, ih]; rfl
        show _ = V.int _ :: (Kg59.whole _).map V.int
        rw [whole_map, List.map_append, wm]
        rfl
end
end BC
/-! BcOps3 -/
/-! The orders and the points. -/
namespace BC
open PySem PySem.Spec PyProof.Rows L2

def spResult (K : PySem.W.Frag) (A : Adr) : Sp := fun vs H Q _ => ∃ H0 b s nw y, ∃ k i : Nat, vs = [.ref b, .int k, .int i] ∧ BoardAt A.Board A.Part H0 H b s nw y ∧ Good s nw ∧ i < s.lifters.length ∧
  ∀ p H', Same H H' → SqT K H' p [.int (resP s k i).1, .int (resP s k i).2] → Q (.ref p) H'
def spRanking (A : Adr) : Sp := fun vs H Q _ => ∃ H0 b s nw y, ∃ k : Nat, vs = [.ref b, .int k] ∧ BoardAt A.Board A.Part H0 H b s nw y ∧ Good s nw ∧
  ∀ p H' ts, Same H H' → H p = none → H' p = some (.lst (ts.map V.ref)) → Rows H' ts ((s.ranked k).map (rowR s k)) → Q (.ref p) H'
def spRanked (A : Adr) : Sp := fun vs H Q _ => ∃ H0 b s nw y k, vs = [.ref b, .int k] ∧ BoardAt A.Board A.Part H0 H b s nw y ∧ Good s nw ∧
  ∀ p H', Same H H' → H p = none → H' p = some (.lst (ansL (Kg59.spec s (.ranked k)).2)) → Q (.ref p) H'
def spWorth : Sp := fun vs H Q _ => ∃ p : Nat, vs = [.int ((p : Int) + 1)] ∧ Q (.int (Kg59.pointsOf p)) H
def spOrderPoints (A : Adr) : Sp := fun vs H Q _ => ∃ H0 b s nw y, ∃ k t : Nat, vs = [.ref b, .int k, .int t] ∧ BoardAt A.Board A.Part H0 H b s nw y ∧ Good s nw ∧
  ∀ H', Same H H' → Q (.int (ptsK s k t)) H'
def spPoints (A : Adr) : Sp := fun vs H Q _ => ∃ H0 b s nw y t, vs = [.ref b, .int t] ∧ BoardAt A.Board A.Part H0 H b s nw y ∧ Good s nw ∧
  ∀ p H', Same H H' → H p = none → H' p = some (.lst (ansL (Kg59.spec s (.points t)).2)) → Q (.ref p) H'

section
variable {K : PySem.W.Frag} {σ : L2.St} {H : Hp} {te : TE} {D : Ends} {u v : V}
def TupS (K : PySem.W.Frag) (te : TE) (σ : L2.St) (H : Hp) (xs : List V) : Prop := ∀ Q : VK, (∀ p H', Same H H' → SqT K H' p xs → Q (.ref p) H') → te σ H Q
theorem s_unpS {i j : Nat} (h : TupS K te σ H [u, v]) (q : ∀ H', Same H H' → D.nx ((σ.set i (some u)).set j (some v)) H') : tAsg te (gTup K 2 (gCons (gName i) (gCons (gName j) gNil))) D σ H :=
  h _ fun p H' e ht => ⟨p, _, rfl, ht, rfl, u, _, rfl, v, _, rfl, rfl, q H' e⟩
/-- xs.append((e, ..)) -/
theorem s_appT {t : TE} {tz : TA} {p : Addr} {xs vs : List V} (h : Val t σ H (.ref p)) (hs : H p = some (.lst xs)) (k : ValA tz σ H vs) (hv : vs.length ≤ 100) (hz : xs.length < 100000)
    (q : ∀ z, H z = none → D.nx σ (upd (upd H z (.tup vs)) p (.lst (xs ++ [.ref z])))) : tDrop (tBM K "list" rAppend t (tCons (tTup tz) tNil)) D σ H :=
  h _ ⟨.inl ⟨rfl, _, SqL.of hs⟩, k _ ⟨Nat.le_trans hv (by decide), fun z hn => ⟨p, xs, .ref z, rfl, rfl, by rw [upd_ne (ne_of_none hs hn)]; exact hs, Nat.lt_of_lt_of_le hz (by decide), q z hn⟩⟩⟩
/-- for i, x in enumerate(a list that stays) -/
theorem w_enum {a : Addr} {xs : List V} {g : TG} {tb : TS} (Pv : Nat → L2.St → Hp → Prop) (h0 : Pv 0 σ H) (hl : ∀ i σ H, i ≤ xs.length → Pv i σ H → SqL K H a xs)
    (hb : ∀ i x σ H z, xs[i]? = some x → Pv i σ H → H z = none → g (.ref z) σ (upd H z (.tup [.int (i : Nat), x])) fun σ2 H2 => tb { D with nx := Pv (i + 1), ct := Pv (i + 1), bk := D.nx } σ2 H2) (hd : ∀ σ H, Pv xs.length σ H → D.nx σ H) :
    ∃ W : Nat → Nat → L2.St → Hp → Prop, (∃ m, W 0 m σ H) ∧ ∀ i m σ H, W i m σ H →
      ((Ite K a).stop i H ∧ D.nx σ H) ∨ ((Ite K a).go i H ∧ ∃ N : L2.St → Hp → Prop, (∀ σ' H', N σ' H' → ∃ m', m' < m ∧ W (i + 1) m' σ' H') ∧ ∀ x H', (Ite K a).yld i H x H' → g x σ H' fun σ2 H2 => tb { D with nx := N, ct := N, bk := D.nx } σ2 H2) := by
  refine ⟨fun i m σ H => m = xs.length - i ∧ i ≤ xs.length ∧ Pv i σ H, ⟨xs.length, (Nat.sub_zero _).symm, Nat.zero_le _, h0⟩, ?_⟩
  intro i m σ1 H1 ⟨em, hi, hp⟩
  subst em
  have hq := hl i σ1 H1 hi hp
  rcases Nat.lt_or_ge i xs.length with c | c
  · right
    refine ⟨⟨xs, xs[i], hq, List.getElem?_eq_getElem c⟩, Pv (i + 1), fun σ' H' z => ⟨xs.length - (i + 1), by omega, rfl, c, z⟩, fun x H' yl => ?_⟩
    obtain ⟨z, w, rfl, hz, rfl, hw⟩ := yl
    exact hb i w σ1 H1 z (hw xs hq) hp hz
  · left
    have e : i = xs.length := Nat.le_antisymm hi c
    rw [e] at hp
    exact ⟨⟨xs, hq, c⟩, hd σ1 H1 hp⟩
end

section
variable {P : Program} {w : World} {K : PySem.W.Frag} {mg : Str → Option Value} {base : Heap} {A : Adr}
variable {σ : L2.St} {H0 H H' : Hp} {te tb tc : TE} {b : Addr} {s : Kg59.State} {nw : NW} {y : Lay} {D : Ends}

theorem n_best {l : PL} {x : Kg59.Lift} {c : Nat} (Pt : PartAt A.Part H l x) (hc : Cap c x) (h : Val te σ H (.ref l.p)) : NewT K (tMeth A.Part "best" (spBest K A.Part) [] E0 te tNil) σ H [.int (bestP x).1, .int (bestP x).2] := by
  obtain ⟨dx, hp⟩ := Pt.obj
  intro Q q
  exact h _ ⟨l.p, dx, _, rfl, hp, pF_best, l, x, rfl, Pt, hc.len, fun t m => (hc.each t m).1, fun H' p e hn ht => q p H' e hn ht⟩

theorem ok_result (T : Txt K mg A) : FnOk P w K mg base CX0 2 A.f_result A.d_result ["board", "which", "lifter"] (spResult K A) := by
  refine T.F_result.ok sc_result (fun vs H Q E h => ?_) (fun cdv A' outer s H vs Q E hr h => ?_)
  · obtain ⟨H0, b, s, nw, y, k, i, rfl, _⟩ := h; rfl
  · obtain ⟨H0, b, s, nw, y, k, i, rfl, B, G, hi, q⟩ := h
    refine ⟨_, (pss_cons (ps_if (pt_cmpR op_lt (pv 1) (pe_cst rfl T.c_BOTH) (nomark _))
      (pss_one (ps_ret (pe_meth0 (pe_ix ix_list (pe_ix ix_list (pe_fld (pv 0) rfl) (pv 1) (fun _ _ => rfl)) (pv 2) (fun _ _ => rfl)) T.cl_Part T.m_best (ok_best T) hr (b_best T) .nil pass0)))
      pss_nil)
      (pss_cons (ps_asg (pe_meth0 (pe_ix ix_list (pe_ix ix_list (pe_fld (pv 0) rfl) pe_int (fun _ _ => rfl)) (pv 2) (fun _ _ => rfl)) T.cl_Part T.m_best (ok_best T) hr (b_best T) .nil pass0) (pg_tup (by rfl) (pgs_cons (pg_name (i := 3) sc_result.nd rfl (Or.inl rfl)) (pgs_cons (pg_name (i := 4) sc_result.nd rfl (Or.inl rfl)) pgs_nil))))
      (pss_cons (ps_asg (pe_meth0 (pe_ix ix_list (pe_ix ix_list (pe_fld (pv 0) rfl) pe_int (fun _ _ => rfl)) (pv 2) (fun _ _ => rfl)) T.cl_Part T.m_best (ok_best T) hr (b_best T) .nil pass0) (pg_tup (by rfl) (pgs_cons (pg_name (i := 5) sc_result.nd rfl (Or.inl rfl)) (pgs_cons (pg_name (i := 6) sc_result.nd rfl (Or.inl rfl)) pgs_nil))))
      (pss_cons (ps_if (PW.pt (pw_or (pt_cmpR op_eq (pv 3) pe_int (nomark _)) (pw_or1 (pt_cmpR op_eq (pv 5) pe_int (nomark _)))))
      (pss_one (ps_ret (pe_tcst rfl T.c_NOTHING)))
      pss_nil)
      (pss_one (ps_ret (pe_tup (pa_cons (pe_op op_add (pv 3) (pv 5)) (pa_cons (pv 6) pa_nil))))))))), ?_⟩
    unfold resP at q
    refine s_if (t_v (v_lt (v_var (v := .int k) rfl) v_c)) (fun e => ?_) (fun e => ?_)
    · have hk : k < 2 := by have z : (k : Int) < 2 := of_decide_eq_true e; omega
      rw [if_pos hk] at q
      exact n_best (B.part k i hk hi) (G.cap i k hk hi) (v_part T B (v_var rfl) hk hi (v_var (v := .int k) rfl) (v_var (v := .int i) rfl) rfl rfl) _ fun p H1 s1 _ ht => q p H1 s1 ht
    · have hk : ¬ k < 2 := fun c => by have z : ¬ (k : Int) < 2 := of_decide_eq_false e; omega
      rw [if_neg hk] at q
      dsimp only [tSeq, tNext]
      refine s_unp (n_best (B.part 0 i (by decide) hi) (G.cap i 0 (by decide) hi) (v_part T B (v_var rfl) (by decide) hi v_c (v_var (v := .int i) rfl) rfl rfl)) fun H1 s1 => ?_
      have B1 := B.mono s1
      refine s_unp (n_best (B1.part 1 i (by decide) hi) (G.cap i 1 (by decide) hi) (v_part T B1 (v_var rfl) (by decide) hi v_c (v_var (v := .int i) rfl) rfl rfl)) fun H2 s2 => ?_
      generalize bestP (s.liftOf i 0) = u at q
      generalize bestP (s.liftOf i 1) = v at q
      dsimp only
      refine s_if (t_or (t_v (v_eq (v_var (v := .int u.1) rfl) v_c)) (t_v (v_eq (v_var (v := .int v.1) rfl) v_c))) (fun e => ?_) (fun e => ?_)
      · have hz : u.1 = 0 ∨ v.1 = 0 := by
          simp only [Bool.or_eq_true, decide_eq_true_eq] at e
          omega
        rw [if_pos hz] at q
        exact fun a ha => q a H2 (s1.trans s2) (ha H2)
      · have hz : ¬ (u.1 = 0 ∨ v.1 = 0) := by
          simp only [Bool.or_eq_false_iff, decide_eq_false_iff_not] at e
          omega
        rw [if_neg hz] at q
        exact s_retT (σ := [some (.ref b), some (.int k), some (.int i), some (.int u.1), some (.int u.2), some (.int v.1), some (.int v.2)]) (a1 (v_add (v_var (i := 3) rfl) (v_var (i := 5) rfl)) (a1 (v_var (i := 6) rfl) a0)) (by show 2 ≤ 100; decide)
          fun p hp => q p _ ((s1.trans s2).trans (same_new hp)) (SqT.of upd_same)

theorem ok_ranking (T : Txt K mg A) : FnOk P w K mg base CX0 3 A.f_ranking A.d_ranking ["board", "which"] (spRanking A) := by
  refine T.F_ranking.ok sc_ranking (fun vs H Q E h => ?_) (fun cdv A' outer s H vs Q E hr h => ?_)
  · obtain ⟨H0, b, s, nw, y, k, rfl, _⟩ := h; rfl
  · obtain ⟨H0, b, s, nw, y, k, rfl, B, G, q⟩ := h
    refine ⟨_, (pss_cons (ps_set (i := 2) sc_ranking.nd rfl (Or.inl rfl) (pe_lst pa_nil))
      (pss_cons (ps_for PassesOwn.never rfl (pi_range1 (by rfl) T.b_range (pa_cons (pe_callB call_len_seq (by rfl) T.b_len PySem.boot_len (pa_cons (pe_fld (pv 0) rfl) pa_nil)) pa_nil)) (pg_name (i := 3) sc_ranking.nd rfl (Or.inl rfl))
      (pss_cons (ps_asg (pe_call (ok_result T) hr rfl T.g_result T.F_result.kp (b_result T) .nil pass0 (pa_cons (pv 0) (pa_cons (pv 1) (pa_cons (pv 3) pa_nil)))) (pg_tup (by rfl) (pgs_cons (pg_name (i := 4) sc_ranking.nd rfl (Or.inl rfl)) (pgs_cons (pg_name (i := 5) sc_ranking.nd rfl (Or.inl rfl)) pgs_nil))))
        (pss_one (ps_if (pt_cmpR op_gt (pv 4) pe_int (nomark _))
        (pss_one (ps_expr (pe_bm PySem.F.plainAttrs_list PySem.F.slot_list_append PySem.F.type_list_append mt_append (pv 2) (pa_cons (pe_tup (pa_cons (pe_op op_sub pe_int (pv 4)) (pa_cons (pv 5) (pa_cons (pv 3) pa_nil)))) pa_nil))))
        pss_nil))))
      (pss_one (ps_ret (pe_callB cr_sortL (by rfl) T.b_sorted (by decide +kernel) (pa_cons (pv 2) pa_nil)))))), ?_⟩
    refine s_setL a0 (by show 0 ≤ 100; decide) fun rp hrp => ?_
    have B1 := B.mono (same_new (o := HO.lst []) hrp)
    have h24 := G.n24
    dsimp only [tSeq]
    refine s_forR (len_teams B1 T (v_var rfl)) (by omega) (fun j σ H' => ∃ (v3 v4 v5 : Option V) (ts : List Addr), σ = [some (.ref b), some (.int k), some (.ref rp), v3, v4, v5] ∧ Same H H' ∧ H' rp = some (.lst (ts.map V.ref)) ∧
      Rows H' ts (((List.range j).filter fun i => (s.result k i).isSome).map (rowR s k))) ⟨none, none, none, [], rfl, same_new hrp, upd_same, trivial⟩ ?_ ?_
    · rintro i σ H' hi ⟨v3, v4, v5, ts, rfl, s1, er, Rw⟩
      have B2 := B.mono s1
      have tr : TupS K (tCall (spResult K A) [] E0 (tCons (tVar 0) (tCons (tVar 1) (tCons (tVar 3) tNil)))) [some (.ref b), some (.int k), some (.ref rp), some (.int i), v4, v5] H' [.int (resP s k i).1, .int (resP s k i).2] := fun Q q =>
        ⟨_, rfl, _, rfl, _, rfl, H0, b, s, nw, y, k, i, rfl, B2, G, hi, q⟩
      have lts : ts.length ≤ 24 := by
        rw [Rw.len, List.length_map]
        refine Nat.le_trans (List.length_filter_le _ _) ?_
        rw [List.length_range]
        omega
      refine s_unpS tr fun H2 s2 => ?_
      have er2 := s2 _ _ er
      have ps := res_pos G (k := k) hi
      refine s_if (t_v (v_gt (v_var (v := .int (resP s k i).1) rfl) v_c)) (fun e => ?_) (fun e => ?_)
      · have hz : (s.result k i).isSome = true := by
          rw [ps]
          have z : (0 : Int) < ((resP s k i).1 : Int) := of_decide_eq_true e
          exact decide_eq_true (by omega)
        refine s_appT (v_var rfl) er2 (a1 (v_sub v_c (v_var (v := .int (resP s k i).1) rfl)) (a1 (v_var (v := .int (resP s k i).2) rfl) (a1 (v_var (v := .int i) rfl) a0))) (by show 3 ≤ 100; decide) (by rw [List.length_map]; omega) fun z hz2 => ?_
        have zr : z ≠ rp := (ne_of_none er2 hz2).symm
        refine ⟨_, _, _, ts ++ [z], rfl, fun c o e => ?_, ?_, ?_⟩
        · rw [upd_ne (ne_of_none e hrp), upd_ne (ne_of_none (s2 _ _ (s1 _ _ e)) hz2)]
          exact s2 _ _ (s1 _ _ e)
        · rw [upd_same, List.map_append]
          rfl
        · rw [List.range_succ, List.filter_append, List.map_append]
          have fz : [i].filter (fun i => (s.result k i).isSome) = [i] := by rw [List.filter_cons, if_pos hz, List.filter_nil]
          rw [fz]
          refine Rows.snoc (r := rowR s k i) (by rw [upd_ne zr, upd_same]; rfl) ?_
          have up : ∀ {us : List Addr} {rs : List (List Int)}, Rows H' us rs → Rows (upd (upd H2 z (.tup [V.int (0 - ((resP s k i).1 : Int)), V.int (resP s k i).2, V.int i])) rp (.lst (ts.map V.ref ++ [V.ref z]))) us rs := by
            intro us
            induction us with
            | nil =>
              intro rs h
              cases rs with
              | nil => trivial
              | cons => exact h.elim
            | cons u us ih =>
              intro rs h
              cases rs with
              | nil => exact h.elim
              | cons r rs =>
                refine ⟨?_, ih h.2⟩
                rw [upd_ne (ne_of h.1 er (by intro c; cases c)), upd_ne (ne_of_none (s2 _ _ h.1) hz2)]
                exact s2 _ _ h.1
          exact up Rw
      · have hz : ¬ (s.result k i).isSome = true := by
          rw [ps]
          have z : ¬ (0 : Int) < ((resP s k i).1 : Int) := of_decide_eq_false e
          exact fun c => z (by have := of_decide_eq_true c; omega)
        refine ⟨_, _, _, ts, rfl, s1.trans s2, er2, ?_⟩
        rw [List.range_succ, List.filter_append]
        have fz : [i].filter (fun i => (s.result k i).isSome) = [] := by rw [List.filter_cons, if_neg hz, List.filter_nil]
        rw [fz, List.append_nil]
        exact Rw.mono s2
    · rintro σ H' ⟨v3, v4, v5, ts, rfl, s1, er, Rw⟩
      have lts : ts.length ≤ 24 := by
        rw [Rw.len, List.length_map]
        exact inR_len G k
      refine ⟨_, rfl, rp, ts, kOf H', 2, rfl, SqL.of er, fun t m => ?_, fun us p pm so hp => ?_⟩
      · obtain ⟨r, mr, e⟩ := Rw.mem m
        rw [kOf_at e]
        obtain ⟨j, _, rfl⟩ := List.mem_map.mp mr
        exact ⟨SqT.of e, rfl⟩
      · have er : us.map (kOf H') = (s.ranked k).map (rowR s k) := by
          refine rank_rows G k ?_ ?_
          · have z := pm.map (kOf H')
            rw [Rw.keys] at z
            exact z
          · rw [List.pairwise_map]
            refine so.imp fun {u v} z => ?_
            rw [← lexLt_lx]
            exact z
        refine q p _ us (s1.trans (same_new hp)) (s1.free hp) upd_same ?_
        rw [← er]
        refine rows_of fun t m => ?_
        obtain ⟨r, mr, e⟩ := Rw.mem (pm.mem_iff.mp m)
        rw [kOf_at e]
        exact same_new hp _ _ e

theorem ok_ranked (T : Txt K mg A) : FnOk P w K mg base CX0 4 A.f_ranked A.d_ranked ["board", "which"] (spRanked A) := by
  refine T.F_ranked.ok sc_ranked (fun vs H Q E h => ?_) (fun cdv A' outer s H vs Q E hr h => ?_)
  · obtain ⟨H0, b, s, nw, y, k, rfl, _⟩ := h; rfl
  · obtain ⟨H0, b, s, nw, y, k, rfl, B, G, q⟩ := h
    refine ⟨_, (pss_cons (ps_if (PW.pt (pw_or (pt_cmpR op_lt (pv 1) pe_int (nomark _)) (pw_or1 (pt_cmpR op_ge (pv 1) (pe_cst rfl T.c_ORDERS) (nomark _)))))
      (pss_one (ps_ret (pe_lst (pa_cons (pe_un un_neg pe_int) pa_nil))))
      pss_nil)
      (pss_cons (ps_set (i := 2) sc_ranked.nd rfl (Or.inl rfl) (pe_call (ok_ranking T) hr rfl T.g_ranking T.F_ranking.kp (b_ranking T) .nil pass0 (pa_cons (pv 0) (pa_cons (pv 1) pa_nil))))
      (pss_cons (ps_set (i := 3) sc_ranked.nd rfl (Or.inl rfl) (pe_lst (pa_cons (pe_callB call_len_seq (by rfl) T.b_len PySem.boot_len (pa_cons (pv 2) pa_nil)) pa_nil)))
      (pss_cons (ps_for PassesOwn.never rfl (pi_list (pv 2)) (pg_name (i := 4) sc_ranked.nd rfl (Or.inl rfl))
      (pss_cons (ps_expr (pe_bm PySem.F.plainAttrs_list PySem.F.slot_list_append PySem.F.type_list_append mt_append (pv 3) (pa_cons (pe_ix ix_tup (pv 4) pe_int (fun _ _ => rfl)) pa_nil)))
        (pss_one (ps_expr (pe_bm PySem.F.plainAttrs_list PySem.F.slot_list_append PySem.F.type_list_append mt_append (pv 3) (pa_cons (pe_op op_sub pe_int (pe_ix ix_tup (pv 4) pe_int (fun _ _ => rfl))) pa_nil))))))
      (pss_one (ps_ret (pv 3))))))), ?_⟩
    refine s_if (t_or (t_v (v_lt (v_var (v := .int k) rfl) v_c)) (t_v (v_ge (v_var (v := .int k) rfl) v_c))) (fun e => ?_) (fun e => ?_)
    · have hw : Kg59.within k 0 2 = false := by
        unfold Kg59.within
        simp only [Bool.or_eq_true, decide_eq_true_eq] at e
        rcases e with e | e <;> simp <;> omega
      rw [spec_ranked_bad hw] at q
      exact s_retL (a1 (v_neg v_c) a0) (by show 1 ≤ 100; decide) fun p hp => q p _ (same_new hp) hp upd_same
    · have hk : 0 ≤ k ∧ k < 3 := by
        simp only [Bool.or_eq_false_iff, decide_eq_false_iff_not] at e
        omega
      have hw : Kg59.within k 0 2 = true := by
        unfold Kg59.within
        simp; omega
      have ek : k = ((k.toNat : Nat) : Int) := by omega
      rw [spec_ranked_ok hw] at q
      generalize k.toNat = m at ek q
      subst ek
      dsimp only [tSeq, tNext]
      refine ⟨_, rfl, _, rfl, H0, b, s, nw, y, m, rfl, B, G, fun pr H1 ts s1 hpr el Rw => ?_⟩
      have lo := ranked_len G m
      have lts : ts.length = (s.ranked m).length := by rw [Rw.len, List.length_map]
      dsimp only
      refine s_setL (a1 (v_len (v_var rfl) (SqL.of el)) a0) (by show 1 ≤ 100; decide) fun tp htp => ?_
      refine ⟨_, rfl, pr, rfl, ⟨_, SqL.of (same_new htp _ _ el)⟩, for_list (K := K) (a := pr) (xs := ts.map V.ref) (fun i σ H' => ∃ v : Option V, σ = [some (.ref b), some (.int m), some (.ref pr), some (.ref tp), v] ∧
        H' = upd H1 tp (.lst (V.int (ts.map V.ref).length :: ((s.ranked m).take i).flatMap fun i : Nat => [V.int (i : Int), V.int (((resP s m i).1 : Nat) : Int)]))) ⟨none, rfl, rfl⟩ ?_ ?_ ?_⟩
      · rintro i σ H' _ ⟨v, _, rfl⟩
        exact SqL.of (same_new htp _ _ el)
      · rintro i x σ H' hx ⟨v, rfl, rfl⟩
        rw [List.getElem?_map] at hx
        cases ei : ts[i]? with
        | none => rw [ei] at hx; cases hx
        | some t =>
          rw [ei] at hx
          obtain rfl : V.ref t = x := Option.some.inj hx
          have hi : i < (s.ranked m).length := by rw [← lts]; exact (List.getElem?_eq_some_iff.mp ei).1
          have ej : (s.ranked m)[i]? = some ((s.ranked m)[i]) := List.getElem?_eq_getElem hi
          generalize (s.ranked m)[i] = j at ej
          obtain ⟨t', et', ht⟩ := Rw.get (j := i) (r := rowR s m j) (by rw [List.getElem?_map, ej]; rfl)
          rw [ei] at et'
          obtain rfl : t = t' := Option.some.inj et'
          have nt : t ≠ tp := ne_of_none ht htp
          have lf : (((s.ranked m).take i).flatMap fun i : Nat => [V.int (i : Int), V.int (((resP s m i).1 : Nat) : Int)]).length = 2 * ((s.ranked m).take i).length := by
            generalize (s.ranked m).take i = l
            induction l with
            | nil => rfl
            | cons z l ih => rw [List.flatMap_cons, List.length_append, ih]; show 2 + _ = 2 * (_ + 1); omega
          have lt := List.length_take_le i (s.ranked m)
          refine s_app (v_var rfl) upd_same (v_ixT (v_var rfl) v_c (SqT.of (by rw [upd_ne nt]; exact ht)) (at_z (j := 2) rfl rfl)) (by rw [List.length_cons, lf]; omega) ?_
          rw [upd_upd]
          refine s_app (v := .int (((resP s m j).1 : Nat) : Int)) (v_var rfl) upd_same (v_is (v_sub v_c (v_ixT (v := .int (0 - ((resP s m j).1 : Int))) (v_var rfl) v_c (SqT.of (by rw [upd_ne nt]; exact ht)) (at_z (j := 0) rfl rfl))) (congrArg V.int (by omega))) (by rw [List.length_append, List.length_cons, lf]; show _ + 1 < 100000; omega) ?_
          rw [upd_upd]
          refine ⟨_, rfl, ?_⟩
          rw [take_one ej, List.flatMap_append, List.append_assoc, List.cons_append]
          rfl
      · rintro σ H' ⟨v, rfl, rfl⟩
        rw [List.length_map, lts, List.take_length]
        refine s_ret (v_var rfl) (q tp _ (s1.trans (same_new htp)) (s1.free htp) ?_)
        rw [upd_same]
        refine congrArg (fun l => some (HO.lst l)) ?_
        show _ = V.int _ :: (Kg59.whole _).map V.int
        rw [whole_pairs]
        refine congrArg _ ?_
        have fm : ∀ l : List Nat, (∀ i ∈ l, i ∈ s.ranked m) → (l.flatMap fun i : Nat => [V.int (i : Int), V.int (((resP s m i).1 : Nat) : Int)]) = l.flatMap fun i : Nat => [V.int (i : Int), V.int (((((s.result m i).map fun r => r.1).getD 0 : Nat)) : Int)] := by
          intro l
          induction l with
          | nil => intro _; rfl
          | cons z l ih =>
            intro hz
            rw [List.flatMap_cons, List.flatMap_cons, ih fun i m => hz i (List.mem_cons_of_mem _ m), ranked_weight G (hz z List.mem_cons_self)]
        exact fm _ fun _ m => m

theorem ok_worth (T : Txt K mg A) : FnOk P w K mg base CX0 1 A.f_worth A.d_worth ["place"] spWorth := by
  refine T.F_worth.ok sc_worth (fun vs H Q E h => ?_) (fun cdv A' outer s H vs Q E hr h => ?_)
  · obtain ⟨p, rfl, _⟩ := h; rfl
  · obtain ⟨p, rfl, q⟩ := h
    refine ⟨_, (pss_cons (ps_if (pt_cmpR op_eq (pv 0) pe_int (nomark _))
      (pss_one (ps_ret (pe_cst rfl T.c_FIRST_WORTH)))
      pss_nil)
      (pss_cons (ps_if (pt_cmpR op_eq (pv 0) pe_int (nomark _))
      (pss_one (ps_ret (pe_cst rfl T.c_SECOND_WORTH)))
      pss_nil)
      (pss_one (ps_ret (pe_callB (call_max2 rfl) (by rfl) T.b_max (by decide +kernel) (pa_cons (pe_op op_sub (pe_op op_add (pe_cst rfl T.c_PLACES) pe_int) (pv 0)) (pa_cons pe_int pa_nil))))))), ?_⟩
    unfold Kg59.pointsOf at q
    refine s_if (t_v (v_eq (v_var (v := .int ((p : Int) + 1)) rfl) v_c)) (fun e => ?_) (fun e => ?_)
    · have e0 : p = 0 := by have z : (p : Int) + 1 = 1 := of_decide_eq_true e; omega
      rw [if_pos e0] at q
      exact q
    · have e0 : ¬ p = 0 := fun c => by have z : ¬ (p : Int) + 1 = 1 := of_decide_eq_false e; omega
      rw [if_neg e0] at q
      dsimp only [tSeq, tNext]
      refine s_if (t_v (v_eq (v_var (v := .int ((p : Int) + 1)) rfl) v_c)) (fun e => ?_) (fun e => ?_)
      · have e1 : p = 1 := by have z : (p : Int) + 1 = 2 := of_decide_eq_true e; omega
        rw [if_pos e1] at q
        exact q
      · have e1 : ¬ p = 1 := fun c => by have z : ¬ (p : Int) + 1 = 2 := of_decide_eq_false e; omega
        rw [if_neg e1] at q
        refine s_ret (v_is (v_max (v_sub (v_add v_c v_c) (v_var (v := .int ((p : Int) + 1)) rfl)) v_c) ?_) q
        refine congrArg V.int ?_
        show (if (0 : Int) > 25 + 1 - ((p : Int) + 1) then (0 : Int) else 25 + 1 - ((p : Int) + 1)) = ((25 - p : Nat) : Int)
        split <;> omega

theorem ok_order_points (T : Txt K mg A) : FnOk P w K mg base CX0 4 A.f_order_points A.d_order_points ["board", "which", "team"] (spOrderPoints A) := by
  refine T.F_order_points.ok sc_order_points (fun vs H Q E h => ?_) (fun cdv A' outer s H vs Q E hr h => ?_)
  · obtain ⟨H0, b, s, nw, y, k, t, rfl, _⟩ := h; rfl
  · obtain ⟨H0, b, s, nw, y, k, t, rfl, B, G, q⟩ := h
    refine ⟨_, (pss_cons (ps_set (i := 3) sc_order_points.nd rfl (Or.inl rfl) pe_int)
      (pss_cons (ps_for PassesOwn.never rfl (pi_enum (by rfl) T.b_enumerate (pa_cons (pe_call (ok_ranking T) hr rfl T.g_ranking T.F_ranking.kp (b_ranking T) .nil pass0 (pa_cons (pv 0) (pa_cons (pv 1) pa_nil))) pa_nil)) (pg_tup (by rfl) (pgs_cons (pg_name (i := 4) sc_order_points.nd rfl (Or.inl rfl)) (pgs_cons (pg_name (i := 5) sc_order_points.nd rfl (Or.inl rfl)) pgs_nil)))
      (pss_one (ps_if (pt_cmpR op_eq (pe_ix ix_list (pe_fld (pv 0) rfl) (pe_ix ix_tup (pv 5) pe_int (fun _ _ => rfl)) (fun _ _ => rfl)) (pv 2) (nomark _))
        (pss_one (ps_aug (i := 3) sc_order_points.nd rfl (Or.inl rfl) (pe_call (ok_worth T) (hr.mono (by decide)) rfl T.g_worth T.F_worth.kp (b_worth T) .nil pass0 (pa_cons (pe_op op_add (pv 4) pe_int) pa_nil)) ip_add))
        pss_nil)))
      (pss_one (ps_ret (pv 3))))), ?_⟩
    dsimp only [tSeq]
    refine s_set (v := .int 0) v_c ?_
    refine ⟨_, rfl, _, rfl, H0, b, s, nw, y, k, rfl, B, G, fun pr H1 ts s1 hpr el Rw => ?_⟩
    have lts : ts.length = (s.ranked k).length := by rw [Rw.len, List.length_map]
    refine ⟨pr, _, rfl, SqL.of el, w_enum (a := pr) (xs := ts.map V.ref) (fun j σ H' => ∃ (v4 v5 : Option V), σ = [some (.ref b), some (.int k), some (.int t), some (.int ((((s.ranked k).zipIdx.take j).map (ptsOf s t)).sum : Nat)), v4, v5] ∧ Same H1 H') ⟨none, none, rfl, Same.refl _⟩ ?_ ?_ ?_⟩
    · rintro i σ H' _ ⟨v4, v5, _, s2⟩
      exact s2.seq (SqL.of el)
    · rintro j x σ H' z hx ⟨v4, v5, rfl, s2⟩ hz
      rw [List.getElem?_map] at hx
      cases ej : ts[j]? with
      | none => rw [ej] at hx; cases hx
      | some u =>
        rw [ej] at hx
        obtain rfl : V.ref u = x := Option.some.inj hx
        have hj : j < (s.ranked k).length := by rw [← lts]; exact (List.getElem?_eq_some_iff.mp ej).1
        have ei : (s.ranked k)[j]? = some ((s.ranked k)[j]) := List.getElem?_eq_getElem hj
        generalize (s.ranked k)[j] = i at ei
        obtain ⟨u', eu', hu⟩ := Rw.get (j := j) (r := rowR s k i) (by rw [List.getElem?_map, ei]; rfl)
        rw [ej] at eu'
        obtain rfl : u = u' := Option.some.inj eu'
        have hi : i < s.lifters.length := (mem_ranked.mp (List.mem_of_getElem? ei)).1
        have s3 : Same H1 (upd H' z (.tup [.int (j : Nat), .ref u])) := s2.trans (same_new hz)
        refine ⟨z, _, rfl, SqT.of upd_same, rfl, _, _, rfl, _, _, rfl, rfl, ?_⟩
        generalize upd H' z (.tup [.int (j : Nat), .ref u]) = H2 at s3 ⊢
        have B2 := B.mono (s1.trans s3)
        have step := pts_step (team := t) ei
        have eg : s.lifters[i]? = some (s.lifters[i]) := List.getElem?_eq_getElem hi
        have vt : Val (tOp (rIxL K) (tFld K (tVar 0) "teams") (tOp (rIxT K) (tVar 5) (tC (.int 2)))) [some (.ref b), some (.int k), some (.int t), some (.int ((((s.ranked k).zipIdx.take j).map (ptsOf s t)).sum : Nat)), some (.int j), some (.ref u)] H2 (.int (s.lifters[i]).team) :=
          v_ix (bf_teams T B2 (v_var rfl)) (v_ixT (v := .int i) (v_var rfl) v_c (SqT.of (s3 _ _ hu)) (at_z (j := 2) rfl rfl)) (SqL.of B2.tl) (at_z (j := i) rfl (by rw [List.getElem?_map, eg]; rfl))
        refine s_if (t_v (v_eq vt (v_var (v := .int t) rfl))) (fun e => ?_) (fun e => ?_)
        · have e1 : (s.lifters[i]).team = t := by have z : ((s.lifters[i]).team : Int) = t := of_decide_eq_true e; omega
          have ep : ptsOf s t (i, j) = Kg59.pointsOf j := by
            unfold ptsOf
            rw [eg]
            exact if_pos (by show some (s.lifters[i]).team = some t; rw [e1])
          rw [ep] at step
          have vw : Val (tCall spWorth [] E0 (tCons (tOp (rI0 fun i j => .int (i + j)) (tVar 4) (tC (.int 1))) tNil)) [some (.ref b), some (.int k), some (.int t), some (.int ((((s.ranked k).zipIdx.take j).map (ptsOf s t)).sum : Nat)), some (.int j), some (.ref u)] H2 (.int (Kg59.pointsOf j)) := fun Q q =>
            v_add (v_var (v := .int j) rfl) v_c _ ⟨j, rfl, q⟩
          refine s_aug (a := ((((s.ranked k).zipIdx.take j).map (ptsOf s t)).sum : Nat)) (b := (Kg59.pointsOf j : Nat)) rfl vw ?_
          refine ⟨some (.int j), some (.ref u), ?_, s3⟩
          rw [step]
          rfl
        · have e1 : ¬ (s.lifters[i]).team = t := fun c => by have z : ¬ ((s.lifters[i]).team : Int) = t := of_decide_eq_false e; omega
          have ep : ptsOf s t (i, j) = 0 := by
            unfold ptsOf
            rw [eg]
            exact if_neg fun c => e1 (Option.some.inj c)
          rw [ep, Nat.add_zero] at step
          refine ⟨some (.int j), some (.ref u), ?_, s3⟩
          rw [step]
          rfl
    · rintro σ H' ⟨v4, v5, rfl, s2⟩
      rw [List.length_map, lts, pts_all]
      exact s_ret (v_var rfl) (q H' (s1.trans s2))

theorem ok_points (T : Txt K mg A) : FnOk P w K mg base CX0 5 A.f_points A.d_points ["board", "team"] (spPoints A) := by
  refine T.F_points.ok sc_points (fun vs H Q E h => ?_) (fun cdv A' outer s H vs Q E hr h => ?_)
  · obtain ⟨H0, b, s, nw, y, t, rfl, _⟩ := h; rfl
  · obtain ⟨H0, b, s, nw, y, t, rfl, B, G, q⟩ := h
    refine ⟨_, (pss_cons (ps_if (pt_not (pt_val (pe_call (ok_right_team T) (hr.mono (by decide)) rfl T.g_right_team T.F_right_team.kp (b_right_team T) .nil pass0 (pa_cons (pv 1) pa_nil))))
      (pss_one (ps_ret (pe_lst (pa_cons (pe_un un_neg pe_int) pa_nil))))
      pss_nil)
      (pss_cons (ps_set (i := 2) sc_points.nd rfl (Or.inl rfl) pe_int)
      (pss_cons (ps_for PassesOwn.never rfl (pi_range1 (by rfl) T.b_range (pa_cons (pe_cst rfl T.c_ORDERS) pa_nil)) (pg_name (i := 3) sc_points.nd rfl (Or.inl rfl))
      (pss_one (ps_aug (i := 2) sc_points.nd rfl (Or.inl rfl) (pe_call (ok_order_points T) hr rfl T.g_order_points T.F_order_points.kp (b_order_points T) .nil pass0 (pa_cons (pv 0) (pa_cons (pv 3) (pa_cons (pv 1) pa_nil)))) ip_add)))
      (pss_one (ps_ret (pe_lst (pa_cons (pv 2) pa_nil))))))), ?_⟩
    refine s_if (t_not (t_b (c_right_team (v_var (v := .int t) rfl)))) (fun e => ?_) (fun e => ?_)
    · rw [spec_points_bad (not_t e)] at q
      exact s_retL (a1 (v_neg v_c) a0) (by show 1 ≤ 100; decide) fun p hp => q p _ (same_new hp) hp upd_same
    · have hw := not_f e
      rw [spec_points_ok hw] at q
      unfold Kg59.within at hw
      simp only [Bool.and_eq_true, decide_eq_true_eq] at hw
      have et : t = ((t.toNat : Nat) : Int) := by omega
      generalize t.toNat = m at et q
      subst et
      dsimp only [tSeq, tNext]
      refine s_set (v := .int 0) v_c ?_
      refine s_forR (n := 3) v_c (by decide) (fun j σ H' => ∃ v3 : Option V, σ = [some (.ref b), some (.int m), some (.int (((List.range j).map fun k => ptsK s k m).sum : Nat)), v3] ∧ Same H H') ⟨none, rfl, Same.refl _⟩ ?_ ?_
      · rintro j σ H' hj ⟨v3, rfl, s1⟩
        refine ⟨_, rfl, _, rfl, _, rfl, _, rfl, H0, b, s, nw, y, j, m, rfl, B.mono s1, G, fun H2 s2 => ?_⟩
        refine ⟨_, _, rfl, rfl, some (.int j), ?_, s1.trans s2⟩
        rw [sum_range_step]
        rfl
      · rintro σ H' ⟨v3, rfl, s1⟩
        exact s_retL (σ := [some (.ref b), some (.int m), some (.int (((List.range 3).map fun k => ptsK s k m).sum : Nat)), v3]) (a1 (v_var (i := 2) rfl) a0) (by show 1 ≤ 100; decide) fun p hp => q p _ (s1.trans (same_new hp)) (s1.free hp) upd_same
end
end BC
/-! BcContest -/
/-! The calls, one behind another. -/
namespace BC
open PySem PySem.Spec PyProof.Rows L2

def isAhead : Kg59.Call → Bool
  | .begin_ _ => true
  | .ask _ _ _ => true
  | .start => true
  | .up => true
  | .order => true
  | _ => false
def spCallLength (K : PySem.W.Frag) : Sp := fun vs H Q _ => ∃ (a : Addr) (ns : List Int) (u : Nat) (c : Kg59.Call) (rest : List Int), vs = [.ref a, .int u] ∧ SqL K H a (ns.map V.int) ∧ ns.drop u = enc c ++ rest ∧ Q (.int (enc c).length) H
def spAnswerIf (K : PySem.W.Frag) (A : Adr) (k : Option Bool) : Sp := fun vs H Q _ => ∃ (H0 : Hp) (b : Addr) (s : Kg59.State) (nw : NW) (y : Lay) (a : Addr) (ns : List Int) (u : Nat) (c : Kg59.Call) (rest : List Int), vs = [.ref b, .ref a, .int u] ∧
  BoardAt A.Board A.Part H0 H b s nw y ∧ Good s nw ∧ SqL K H a (ns.map V.int) ∧ ns.drop u = enc c ++ rest ∧ (∀ z, k = some z → isAhead c = z) ∧ Post A H0 b s c Q
def spAns (K : PySem.W.Frag) : Sp := fun vs H Q _ => ∃ (a : Addr) (ns : List Int), vs = [.ref a] ∧ SqL K H a (ns.map V.int) ∧ PyKg59.answers_asked ns = true ∧
  ∀ (H' : Hp) (p : Addr), H' p = some (.lst ((PyKg59.answers ns).map V.int)) → Q (.ref p) H'

theorem fst_card {s : Kg59.State} {i k : Int} : (Kg59.spec s (.card i k)).1 = s := by
  cases h : (Kg59.isLifter s i && Kg59.within k 0 1) with
  | false => rw [spec_card_bad h]
  | true => rw [spec_card_ok h]
theorem fst_ranked {s : Kg59.State} {k : Int} : (Kg59.spec s (.ranked k)).1 = s := by
  cases h : Kg59.within k 0 2 with
  | false => rw [spec_ranked_bad h]
  | true => rw [spec_ranked_ok h]
theorem fst_points {s : Kg59.State} {t : Int} : (Kg59.spec s (.points t)).1 = s := by
  cases h : Kg59.within t 0 20 with
  | false => rw [spec_points_bad h]
  | true => rw [spec_points_ok h]
theorem fst_order {s : Kg59.State} : (Kg59.spec s .order).1 = s := rfl

section
variable {K : PySem.W.Frag} {σ : L2.St} {H : Hp} {ta tb te : TE} {D : Ends} {a : Addr} {ns m rest : List Int}
/-- calls[e], a place within what stands at u -/
theorem v_nth {u j : Nat} {z v : Int} (h : Val ta σ H (.ref a)) (k : Val tb σ H (.int z)) (hS : SqL K H a (ns.map V.int)) (hd : ns.drop u = m ++ rest) (ez : z = ((u + j : Nat) : Int)) (e : m[j]? = some v) : Val (tOp (rIxL K) ta tb) σ H (.int v) :=
  v_ix h k hS (at_z ez (by rw [List.getElem?_map, get_drop hd e]; rfl))
theorem v_ixC {xs : List V} {i : Int} {v : V} (k : Val tb σ H (.int i)) (e : atI xs i = some v) : Val (tOp (rIxT K) (tTupC K xs) tb) σ H v := fun _ q => fun a ha => k _ ⟨a, xs, i, v, rfl, rfl, ha H, e, q⟩
theorem n_slice {xs : List V} {i j : Int} (h : Val te σ H (.ref a)) (k : Val ta σ H (.int i)) (l : Val tb σ H (.int j)) (hS : SqL K H a xs) : NewL (tSl (rSlL K) te (tPart ta) (tPart tb)) σ H (cutV xs (some i) (some j)) := fun _ q =>
  h _ (k _ ⟨i, rfl, l _ ⟨j, rfl, a, xs, rfl, hS, fun p hp => q p _ (same_new hp) hp upd_same⟩⟩)
theorem cut_row {u : Nat} {p q : Int} {ts : List Int} (hd : ns.drop u = p :: q :: ts ++ rest) (i j : Int) (ei : i = ((u + 2 : Nat) : Int)) (ej : j = ((u + 2 + ts.length : Nat) : Int)) : cutV (ns.map V.int) (some i) (some j) = ts.map V.int := by
  have hl : ns.length - u = ts.length + 2 + rest.length := by
    rw [← List.length_drop, hd]
    simp
    omega
  have hd2 : ns.drop (u + 2) = ts ++ rest := by
    rw [← List.drop_drop, hd]
    rfl
  unfold cutV
  rw [ei, ej, HT.sIx_nat, HT.sIx_nat, List.length_map]
  have e1 : min (u + 2) ns.length = u + 2 := by omega
  have e2 : min (u + 2 + ts.length) ns.length = u + 2 + ts.length := by omega
  rw [e1, e2, ← List.map_drop, hd2, ← List.map_take]
  have e3 : u + 2 + ts.length - (u + 2) = ts.length := by omega
  rw [e3, List.take_left']
  rfl
end

section
variable {P : Program} {w : World} {K : PySem.W.Frag} {mg : Str → Option Value} {base : Heap} {A : Adr}

theorem ok_call_length (T : Txt K mg A) : FnOk P w K mg base CX0 1 A.f_call_length A.d_call_length ["calls", "at"] (spCallLength K) := by
  refine T.F_call_length.ok sc_call_length (fun vs H Q E h => ?_) (fun cdv A' outer s H vs Q E hr h => ?_)
  · obtain ⟨a, ns, u, c, rest, rfl, _⟩ := h; rfl
  · obtain ⟨a, ns, u, c, rest, rfl, hS, hd, q⟩ := h
    refine ⟨_, (pss_cons (ps_if (pt_cmpR op_eq (pe_ix ix_list (pv 0) (pv 1) (fun _ _ => rfl)) (pe_cst rfl T.c_BEGIN) (nomark _))
      (pss_one (ps_ret (pe_op op_add pe_int (pe_ix ix_list (pv 0) (pe_op op_add (pv 1) pe_int) (fun _ _ => rfl)))))
      pss_nil)
      (pss_one (ps_ret (pe_op op_add pe_int (pe_ix ix_tup (pe_tcst rfl T.c_MANY_NUMBERS) (pe_ix ix_list (pv 0) (pv 1) (fun _ _ => rfl)) (fun _ _ => rfl)))))), ?_⟩
    have first : ∀ (z : Int) (σ : L2.St), σ[0]? = some (some (.ref a)) → σ[1]? = some (some (.int u)) → (enc c)[0]? = some z → Val (tOp (rIxL K) (tVar 0) (tVar 1)) σ H (.int z) := fun z σ h0 h1 e =>
      v_nth (j := 0) (v_var h0) (v_var h1) hS hd rfl e
    have other : ∀ (z : Int) (n : Nat), (enc c)[0]? = some z → z ≠ 1 → (enc c).length = 1 + n → ([V.int 0, V.int 0, V.int 3, V.int 0, V.int 0, V.int 0, V.int 1, V.int 2, V.int 0, V.int 2, V.int 1, V.int 1])[z.toNat]? = some (.int n) → 0 ≤ z →
        tIfS (tTest (tOp rEq (tOp (rIxL K) (tVar 0) (tVar 1)) (tC (.int 1)))) (tRet (tOp (rI0 fun i j => .int (i + j)) (tC (.int 2)) (tOp (rIxL K) (tVar 0) (tOp (rI0 fun i j => .int (i + j)) (tVar 1) (tC (.int 1)))))) tNext
          { nx := tRet (tOp (rI0 fun i j => .int (i + j)) (tC (.int 1)) (tOp (rIxT K) (tTupC K [.int 0, .int 0, .int 3, .int 0, .int 0, .int 0, .int 1, .int 2, .int 0, .int 2, .int 1, .int 1]) (tOp (rIxL K) (tVar 0) (tVar 1)))) { nx := fun _ H' => Q .non H', rt := Q }, rt := Q }
          (L2.start ["calls", "at"] [.ref a, .int u]) H := fun z n e0 z1 hl et z0 => by
      refine st_no (t_is (t_v (v_eq (first z _ rfl rfl e0) v_c)) (decide_eq_false z1)) ?_
      refine s_ret (v_is (v_add v_c (v_ixC (first z _ rfl rfl e0) (at_z (j := z.toNat) (by omega) et))) ?_) q
      rw [hl]
      exact congrArg V.int (by omega)
    cases c with
    | begin_ ts =>
      refine st_yes (t_is (t_v (v_eq (first 1 _ rfl rfl rfl) v_c)) (decide_eq_true rfl)) ?_
      refine s_ret (v_is (v_add v_c (v_nth (j := 1) (v := (ts.length : Int)) (v_var rfl) (v_add (v_var (v := .int u) rfl) v_c) hS hd (by omega) rfl)) ?_) q
      refine congrArg V.int ?_
      show (2 : Int) + (ts.length : Int) = ((ts.length + 1 + 1 : Nat) : Int)
      omega
    | ask i m n => exact other 2 3 rfl (by decide) rfl rfl (by decide)
    | start => exact other 3 0 rfl (by decide) rfl rfl (by decide)
    | up => exact other 4 0 rfl (by decide) rfl rfl (by decide)
    | order => exact other 5 0 rfl (by decide) rfl rfl (by decide)
    | try_ g => exact other 6 1 rfl (by decide) rfl rfl (by decide)
    | change i n => exact other 7 2 rfl (by decide) rfl rfl (by decide)
    | reverse => exact other 8 0 rfl (by decide) rfl rfl (by decide)
    | card i k => exact other 9 2 rfl (by decide) rfl rfl (by decide)
    | ranked k => exact other 10 1 rfl (by decide) rfl rfl (by decide)
    | points t => exact other 11 1 rfl (by decide) rfl rfl (by decide)

theorem ok_answer_ahead (T : Txt K mg A) : FnOk P w K mg base CX0 7 A.f_answer_ahead A.d_answer_ahead ["board", "calls", "at"] (spAnswerIf K A (some true)) := by
  refine T.F_answer_ahead.ok sc_answer_ahead (fun vs H Q E h => ?_) (fun cdv A' outer s H vs Q E hr h => ?_)
  · obtain ⟨H0, b, s, nw, y, a, ns, u, c, rest, rfl, _⟩ := h; rfl
  · obtain ⟨H0, b, s, nw, y, a, ns, u, c, rest, rfl, B, G, hS, hd, hk, q⟩ := h
    refine ⟨_, (pss_cons (ps_set (i := 3) sc_answer_ahead.nd rfl (Or.inl rfl) (pe_ix ix_list (pv 1) (pv 2) (fun _ _ => rfl)))
      (pss_cons (ps_if (pt_cmpR op_eq (pv 3) (pe_cst rfl T.c_BEGIN) (nomark _))
      (pss_one (ps_ret (pe_call (ok_begin T) (hr.mono (by decide)) rfl T.g_begin T.F_begin.kp (b_begin T) .nil pass0 (pa_cons (pv 0) (pa_cons (pe_slice sl_list (pv 1) (po_some (pe_op op_add (pv 2) pe_int)) (po_some (pe_op op_add (pe_op op_add (pv 2) pe_int) (pe_ix ix_list (pv 1) (pe_op op_add (pv 2) pe_int) (fun _ _ => rfl))))) pa_nil)))))
      pss_nil)
      (pss_cons (ps_if (pt_cmpR op_eq (pv 3) pe_int (nomark _))
      (pss_one (ps_ret (pe_call (ok_ask T) (hr.mono (by decide)) rfl T.g_ask T.F_ask.kp (b_ask T) .nil pass0 (pa_cons (pv 0) (pa_cons (pe_ix ix_list (pv 1) (pe_op op_add (pv 2) pe_int) (fun _ _ => rfl)) (pa_cons (pe_ix ix_list (pv 1) (pe_op op_add (pv 2) pe_int) (fun _ _ => rfl)) (pa_cons (pe_ix ix_list (pv 1) (pe_op op_add (pv 2) pe_int) (fun _ _ => rfl)) pa_nil)))))))
      pss_nil)
      (pss_cons (ps_if (pt_cmpR op_eq (pv 3) pe_int (nomark _))
      (pss_one (ps_ret (pe_call (ok_start T) hr rfl T.g_start T.F_start.kp (b_start T) .nil pass0 (pa_cons (pv 0) pa_nil))))
      pss_nil)
      (pss_cons (ps_if (pt_cmpR op_eq (pv 3) pe_int (nomark _))
      (pss_one (ps_ret (pe_call (ok_up T) (hr.mono (by decide)) rfl T.g_up T.F_up.kp (b_up T) .nil pass0 (pa_cons (pv 0) pa_nil))))
      pss_nil)
      (pss_one (ps_ret (pe_call (ok_order T) (hr.mono (by decide)) rfl T.g_order T.F_order.kp (b_order T) .nil pass0 (pa_cons (pv 0) pa_nil))))))))), ?_⟩
    have hk := hk true rfl
    have num : ∀ (z : Int) (σ : L2.St), σ[1]? = some (some (.ref a)) → σ[2]? = some (some (.int u)) → (enc c)[0]? = some z → Val (tOp (rIxL K) (tVar 1) (tVar 2)) σ H (.int z) := fun z σ h0 h1 e =>
      v_nth (j := 0) (v_var h0) (v_var h1) hS hd rfl e
    have no : ∀ {z k : Int} {σ : L2.St}, σ[3]? = some (some (.int z)) → z ≠ k → Ans (tTest (tOp rEq (tVar 3) (tC (.int k)))) σ H false := fun h n => t_is (t_v (v_eq (v_var h) v_c)) (decide_eq_false n)
    have yes : ∀ {z : Int} {σ : L2.St}, σ[3]? = some (some (.int z)) → Ans (tTest (tOp rEq (tVar 3) (tC (.int z)))) σ H true := fun h => t_is (t_v (v_eq (v_var h) v_c)) (decide_eq_true rfl)
    cases c with
    | begin_ ts =>
      refine s_set (num 1 _ rfl rfl rfl) ?_
      dsimp only [tSeq, tNext]
      refine st_yes (yes rfl) ?_
      refine ⟨_, rfl, ?_⟩
      refine n_slice (v_var (v := .ref a) rfl) (v_add (v_var (v := .int u) rfl) v_c) (v_add (v_add (v_var (v := .int u) rfl) v_c) (v_nth (j := 1) (v := (ts.length : Int)) (v_var (v := .ref a) rfl) (v_add (v_var (v := .int u) rfl) v_c) hS hd (by omega) rfl)) hS _ fun p H1 s1 hp ep => ?_
      rw [cut_row (rest := rest) (p := 1) (q := (ts.length : Int)) (ts := ts) hd _ _ (by omega) (by omega)] at ep
      exact ⟨H0, b, s, nw, y, p, ts, rfl, B.mono s1, G, ep, B.same.free hp, q⟩
    | ask i m n =>
      refine s_set (num 2 _ rfl rfl rfl) ?_
      dsimp only [tSeq, tNext]
      refine st_no (no rfl (by decide)) ?_
      try dsimp only
      refine st_yes (yes rfl) ?_
      refine ⟨_, rfl, ?_⟩
      refine v_nth (j := 1) (v := i) (v_var (v := .ref a) rfl) (v_add (v_var (v := .int u) rfl) v_c) hS hd (by omega) rfl _ ?_
      refine v_nth (j := 2) (v := m) (v_var (v := .ref a) rfl) (v_add (v_var (v := .int u) rfl) v_c) hS hd (by omega) rfl _ ?_
      refine v_nth (j := 3) (v := n) (v_var (v := .ref a) rfl) (v_add (v_var (v := .int u) rfl) v_c) hS hd (by omega) rfl _ ?_
      exact ⟨H0, b, s, nw, y, i, m, n, rfl, B, G, q⟩
    | start =>
      refine s_set (num 3 _ rfl rfl rfl) ?_
      dsimp only [tSeq, tNext]
      refine st_no (no rfl (by decide)) ?_
      try dsimp only
      refine st_no (no rfl (by decide)) ?_
      try dsimp only
      refine st_yes (yes rfl) ?_
      exact ⟨_, rfl, H0, b, s, nw, y, rfl, B, G, q⟩
    | up =>
      refine s_set (num 4 _ rfl rfl rfl) ?_
      dsimp only [tSeq, tNext]
      refine st_no (no rfl (by decide)) ?_
      try dsimp only
      refine st_no (no rfl (by decide)) ?_
      try dsimp only
      refine st_no (no rfl (by decide)) ?_
      try dsimp only
      refine st_yes (yes rfl) ?_
      exact ⟨_, rfl, H0, b, s, nw, y, rfl, B, G, fun p H1 s1 hp ep => q p H1 nw y (B.mono s1) G (B.same.free hp) ep⟩
    | order =>
      refine s_set (num 5 _ rfl rfl rfl) ?_
      dsimp only [tSeq, tNext]
      refine st_no (no rfl (by decide)) ?_
      try dsimp only
      refine st_no (no rfl (by decide)) ?_
      try dsimp only
      refine st_no (no rfl (by decide)) ?_
      try dsimp only
      refine st_no (no rfl (by decide)) ?_
      exact ⟨_, rfl, H0, b, s, nw, y, rfl, B, G, fun p H1 s1 hp ep => q p H1 nw y (B.mono s1) G (B.same.free hp) ep⟩
    | try_ g => cases hk
    | change i n => cases hk
    | reverse => cases hk
    | card i k => cases hk
    | ranked k => cases hk
    | points t => cases hk

theorem ok_answer_behind (T : Txt K mg A) : FnOk P w K mg base CX0 7 A.f_answer_behind A.d_answer_behind ["board", "calls", "at"] (spAnswerIf K A (some false)) := by
  refine T.F_answer_behind.ok sc_answer_behind (fun vs H Q E h => ?_) (fun cdv A' outer s H vs Q E hr h => ?_)
  · obtain ⟨H0, b, s, nw, y, a, ns, u, c, rest, rfl, _⟩ := h; rfl
  · obtain ⟨H0, b, s, nw, y, a, ns, u, c, rest, rfl, B, G, hS, hd, hk, q⟩ := h
    refine ⟨_, (pss_cons (ps_set (i := 3) sc_answer_behind.nd rfl (Or.inl rfl) (pe_ix ix_list (pv 1) (pv 2) (fun _ _ => rfl)))
      (pss_cons (ps_if (pt_cmpR op_eq (pv 3) pe_int (nomark _))
      (pss_one (ps_ret (pe_call (ok_try_one T) hr rfl T.g_try_one T.F_try_one.kp (b_try_one T) .nil pass0 (pa_cons (pv 0) (pa_cons (pe_ix ix_list (pv 1) (pe_op op_add (pv 2) pe_int) (fun _ _ => rfl)) pa_nil)))))
      pss_nil)
      (pss_cons (ps_if (pt_cmpR op_eq (pv 3) pe_int (nomark _))
      (pss_one (ps_ret (pe_call (ok_change T) (hr.mono (by decide)) rfl T.g_change T.F_change.kp (b_change T) .nil pass0 (pa_cons (pv 0) (pa_cons (pe_ix ix_list (pv 1) (pe_op op_add (pv 2) pe_int) (fun _ _ => rfl)) (pa_cons (pe_ix ix_list (pv 1) (pe_op op_add (pv 2) pe_int) (fun _ _ => rfl)) pa_nil))))))
      pss_nil)
      (pss_cons (ps_if (pt_cmpR op_eq (pv 3) pe_int (nomark _))
      (pss_one (ps_ret (pe_call (ok_turn_round T) (hr.mono (by decide)) rfl T.g_turn_round T.F_turn_round.kp (b_turn_round T) .nil pass0 (pa_cons (pv 0) pa_nil))))
      pss_nil)
      (pss_cons (ps_if (pt_cmpR op_eq (pv 3) pe_int (nomark _))
      (pss_one (ps_ret (pe_call (ok_card T) (hr.mono (by decide)) rfl T.g_card T.F_card.kp (b_card T) .nil pass0 (pa_cons (pv 0) (pa_cons (pe_ix ix_list (pv 1) (pe_op op_add (pv 2) pe_int) (fun _ _ => rfl)) (pa_cons (pe_ix ix_list (pv 1) (pe_op op_add (pv 2) pe_int) (fun _ _ => rfl)) pa_nil))))))
      pss_nil)
      (pss_cons (ps_if (pt_cmpR op_eq (pv 3) pe_int (nomark _))
      (pss_one (ps_ret (pe_call (ok_ranked T) (hr.mono (by decide)) rfl T.g_ranked T.F_ranked.kp (b_ranked T) .nil pass0 (pa_cons (pv 0) (pa_cons (pe_ix ix_list (pv 1) (pe_op op_add (pv 2) pe_int) (fun _ _ => rfl)) pa_nil)))))
      pss_nil)
      (pss_one (ps_ret (pe_call (ok_points T) (hr.mono (by decide)) rfl T.g_points T.F_points.kp (b_points T) .nil pass0 (pa_cons (pv 0) (pa_cons (pe_ix ix_list (pv 1) (pe_op op_add (pv 2) pe_int) (fun _ _ => rfl)) pa_nil))))))))))), ?_⟩
    have hk := hk false rfl
    have num : ∀ (z : Int) (σ : L2.St), σ[1]? = some (some (.ref a)) → σ[2]? = some (some (.int u)) → (enc c)[0]? = some z → Val (tOp (rIxL K) (tVar 1) (tVar 2)) σ H (.int z) := fun z σ h0 h1 e =>
      v_nth (j := 0) (v_var h0) (v_var h1) hS hd rfl e
    have no : ∀ {z k : Int} {σ : L2.St}, σ[3]? = some (some (.int z)) → z ≠ k → Ans (tTest (tOp rEq (tVar 3) (tC (.int k)))) σ H false := fun h n => t_is (t_v (v_eq (v_var h) v_c)) (decide_eq_false n)
    have yes : ∀ {z : Int} {σ : L2.St}, σ[3]? = some (some (.int z)) → Ans (tTest (tOp rEq (tVar 3) (tC (.int z)))) σ H true := fun h => t_is (t_v (v_eq (v_var h) v_c)) (decide_eq_true rfl)
    cases c with
    | try_ g =>
      refine s_set (num 6 _ rfl rfl rfl) ?_
      dsimp only [tSeq, tNext]
      refine st_yes (yes rfl) ?_
      refine ⟨_, rfl, ?_⟩
      refine v_nth (j := 1) (v := g) (v_var (v := .ref a) rfl) (v_add (v_var (v := .int u) rfl) v_c) hS hd (by omega) rfl _ ?_
      exact ⟨H0, b, s, nw, y, g, rfl, B, G, q⟩
    | change i n =>
      refine s_set (num 7 _ rfl rfl rfl) ?_
      dsimp only [tSeq, tNext]
      refine st_no (no rfl (by decide)) ?_
      try dsimp only
      refine st_yes (yes rfl) ?_
      refine ⟨_, rfl, ?_⟩
      refine v_nth (j := 1) (v := i) (v_var (v := .ref a) rfl) (v_add (v_var (v := .int u) rfl) v_c) hS hd (by omega) rfl _ ?_
      refine v_nth (j := 2) (v := n) (v_var (v := .ref a) rfl) (v_add (v_var (v := .int u) rfl) v_c) hS hd (by omega) rfl _ ?_
      exact ⟨H0, b, s, nw, y, i, n, rfl, B, G, q⟩
    | reverse =>
      refine s_set (num 8 _ rfl rfl rfl) ?_
      dsimp only [tSeq, tNext]
      refine st_no (no rfl (by decide)) ?_
      try dsimp only
      refine st_no (no rfl (by decide)) ?_
      try dsimp only
      refine st_yes (yes rfl) ?_
      exact ⟨_, rfl, H0, b, s, nw, y, rfl, B, G, q⟩
    | card i k =>
      refine s_set (num 9 _ rfl rfl rfl) ?_
      dsimp only [tSeq, tNext]
      refine st_no (no rfl (by decide)) ?_
      try dsimp only
      refine st_no (no rfl (by decide)) ?_
      try dsimp only
      refine st_no (no rfl (by decide)) ?_
      try dsimp only
      refine st_yes (yes rfl) ?_
      refine ⟨_, rfl, ?_⟩
      refine v_nth (j := 1) (v := i) (v_var (v := .ref a) rfl) (v_add (v_var (v := .int u) rfl) v_c) hS hd (by omega) rfl _ ?_
      refine v_nth (j := 2) (v := k) (v_var (v := .ref a) rfl) (v_add (v_var (v := .int u) rfl) v_c) hS hd (by omega) rfl _ ?_
      exact ⟨H0, b, s, nw, y, i, k, rfl, B, G, fun p H1 s1 hp ep => q p H1 nw y (by rw [fst_card]; exact B.mono s1) (by rw [fst_card]; exact G) (B.same.free hp) ep⟩
    | ranked k =>
      refine s_set (num 10 _ rfl rfl rfl) ?_
      dsimp only [tSeq, tNext]
      refine st_no (no rfl (by decide)) ?_
      try dsimp only
      refine st_no (no rfl (by decide)) ?_
      try dsimp only
      refine st_no (no rfl (by decide)) ?_
      try dsimp only
      refine st_no (no rfl (by decide)) ?_
      try dsimp only
      refine st_yes (yes rfl) ?_
      refine ⟨_, rfl, ?_⟩
      refine v_nth (j := 1) (v := k) (v_var (v := .ref a) rfl) (v_add (v_var (v := .int u) rfl) v_c) hS hd (by omega) rfl _ ?_
      exact ⟨H0, b, s, nw, y, k, rfl, B, G, fun p H1 s1 hp ep => q p H1 nw y (by rw [fst_ranked]; exact B.mono s1) (by rw [fst_ranked]; exact G) (B.same.free hp) ep⟩
    | points t =>
      refine s_set (num 11 _ rfl rfl rfl) ?_
      dsimp only [tSeq, tNext]
      refine st_no (no rfl (by decide)) ?_
      try dsimp only
      refine st_no (no rfl (by decide)) ?_
      try dsimp only
      refine st_no (no rfl (by decide)) ?_
      try dsimp only
      refine st_no (no rfl (by decide)) ?_
      try dsimp only
      refine st_no (no rfl (by decide)) ?_
      refine ⟨_, rfl, ?_⟩
      refine v_nth (j := 1) (v := t) (v_var (v := .ref a) rfl) (v_add (v_var (v := .int u) rfl) v_c) hS hd (by omega) rfl _ ?_
      exact ⟨H0, b, s, nw, y, t, rfl, B, G, fun p H1 s1 hp ep => q p H1 nw y (by rw [fst_points]; exact B.mono s1) (by rw [fst_points]; exact G) (B.same.free hp) ep⟩
    | begin_ ts => cases hk
    | ask i m n => cases hk
    | start => cases hk
    | up => cases hk
    | order => cases hk

theorem ok_answer (T : Txt K mg A) : FnOk P w K mg base CX0 8 A.f_answer A.d_answer ["board", "calls", "at"] (spAnswerIf K A none) := by
  refine T.F_answer.ok sc_answer (fun vs H Q E h => ?_) (fun cdv A' outer s H vs Q E hr h => ?_)
  · obtain ⟨H0, b, s, nw, y, a, ns, u, c, rest, rfl, _⟩ := h; rfl
  · obtain ⟨H0, b, s, nw, y, a, ns, u, c, rest, rfl, B, G, hS, hd, _, q⟩ := h
    refine ⟨_, (pss_cons (ps_if (pt_cmpR op_le (pe_ix ix_list (pv 1) (pv 2) (fun _ _ => rfl)) pe_int (nomark _))
      (pss_one (ps_ret (pe_call (ok_answer_ahead T) hr rfl T.g_answer_ahead T.F_answer_ahead.kp (b_answer_ahead T) .nil pass0 (pa_cons (pv 0) (pa_cons (pv 1) (pa_cons (pv 2) pa_nil))))))
      pss_nil)
      (pss_one (ps_ret (pe_call (ok_answer_behind T) hr rfl T.g_answer_behind T.F_answer_behind.kp (b_answer_behind T) .nil pass0 (pa_cons (pv 0) (pa_cons (pv 1) (pa_cons (pv 2) pa_nil))))))), ?_⟩
    obtain ⟨z, ez, hz⟩ : ∃ z, (enc c)[0]? = some z ∧ decide (z ≤ 5) = isAhead c := by
      cases c <;> exact ⟨_, rfl, rfl⟩
    refine s_if (t_v (v_le (v_nth (j := 0) (v := z) (v_var (v := .ref a) rfl) (v_var (v := .int u) rfl) hS hd rfl ez) v_c)) (fun e => ?_) (fun e => ?_)
    · exact ⟨_, rfl, _, rfl, _, rfl, H0, b, s, nw, y, a, ns, u, c, rest, rfl, B, G, hS, hd, fun k ek => by cases ek; rw [← hz]; exact e, q⟩
    · exact ⟨_, rfl, _, rfl, _, rfl, H0, b, s, nw, y, a, ns, u, c, rest, rfl, B, G, hS, hd, fun k ek => by cases ek; rw [← hz]; exact e, q⟩

theorem ok_answers (T : Txt K mg A) : FnOk P w K mg base CX0 9 A.f_answers A.d_answers ["calls"] (spAns K) := by
  refine T.F_answers.ok sc_answers (fun vs H Q E h => ?_) (fun cdv A' outer s H vs Q E hr h => ?_)
  · obtain ⟨a, ns, rfl, _⟩ := h; rfl
  · obtain ⟨a, ns, rfl, hS, hask, q⟩ := h
    refine ⟨_, (pss_cons (ps_set (i := 1) sc_answers.nd rfl (Or.inl rfl) (pe_make0 T.mk_Board (ok_Board_init T) (hr.mono (by decide)) rfl T.g_Board (b_Board_init T) .nil pass0))
      (pss_cons (ps_set (i := 2) sc_answers.nd rfl (Or.inl rfl) (pe_lst pa_nil))
      (pss_cons (ps_set (i := 3) sc_answers.nd rfl (Or.inl rfl) pe_int)
      (pss_cons (ps_while PassesOwn.never (pt_cmpR op_lt (pv 3) (pe_callB call_len_seq (by rfl) T.b_len PySem.boot_len (pa_cons (pv 0) pa_nil)) (nomark _))
      (pss_cons (ps_set (i := 4) sc_answers.nd rfl (Or.inl rfl) (pe_call (ok_answer T) hr rfl T.g_answer T.F_answer.kp (b_answer T) .nil pass0 (pa_cons (pv 1) (pa_cons (pv 0) (pa_cons (pv 3) pa_nil)))))
        (pss_cons (ps_expr (pe_bm PySem.F.plainAttrs_list PySem.F.slot_list_append PySem.F.type_list_append mt_append (pv 2) (pa_cons (pe_callB call_len_seq (by rfl) T.b_len PySem.boot_len (pa_cons (pv 4) pa_nil)) pa_nil)))
        (pss_cons (ps_expr (pe_bm PySem.F.plainAttrs_list PySem.F.slot_list_extend PySem.F.type_list_extend mt_extend (pv 2) (pa_cons (pv 4) pa_nil)))
        (pss_one (ps_aug (i := 3) sc_answers.nd rfl (Or.inl rfl) (pe_call (ok_call_length T) (hr.mono (by decide)) rfl T.g_call_length T.F_call_length.kp (b_call_length T) .nil pass0 (pa_cons (pv 0) (pa_cons (pv 3) pa_nil))) ip_add))))))
      (pss_one (ps_ret (pv 2))))))), ?_⟩
    obtain ⟨cs0, hc0, ea, hmax⟩ := answers_due hask
    intro b dx nb nd ne
    have s0 : Same H (upd (upd H dx (.own b)) b (.ins A.Board dx [])) := fun c o e => by
      rw [upd_ne (ne_of_none e nb), upd_ne (ne_of_none e nd)]
      exact e
    refine ⟨H, b, dx, rfl, s0, nb, upd_same, fun H1 y1 B1 => ⟨rfl, ?_⟩⟩
    refine s_setL a0 (by show 0 ≤ 100; decide) fun sp hsp => ?_
    have B2 := B1.frame_new (o := HO.lst []) hsp
    have hs0 : H sp = none := B1.same.free hsp
    have hSt : ∀ o, SqL K (upd H sp o) a (ns.map V.int) := fun o => (same_new hs0).seq hS
    dsimp only [tSeq]
    refine s_set (v := .int 0) v_c ?_
    have vl : ∀ (σ : L2.St) (H' : Hp), σ[0]? = some (some (.ref a)) → SqL K H' a (ns.map V.int) → Val (tCB (fun zs H Q => ∃ p ys, zs = [.ref p] ∧ (SqL K H p ys ∨ SqT K H p ys) ∧ Q (.int ys.length) H) (tCons (tVar 0) tNil)) σ H' (.int ns.length) := fun σ H' h hS' => by
      have z := v_len (v_var h) hS'
      rw [List.length_map] at z
      exact z
    refine ⟨fun m σ H' => ∃ (u f : Nat) (cs : List (List (List Int))) (s : Kg59.State) (nw : NW) (y : Lay) (acc : List Int) (v : Option V), m = ns.length - u ∧ u ≤ ns.length ∧ σ = [some (.ref a), some (.ref b), some (.ref sp), some (.int u), v] ∧
      PyFlat.calls PyKg59.shape f (ns.drop u) = some cs ∧ acc ++ due s cs = PyKg59.answers ns ∧ Good s nw ∧ BoardAt A.Board A.Part (upd H sp (.lst (acc.map V.int))) H' b s nw y, ⟨ns.length - 0, 0, ns.length, cs0, fresh [], none, y1, [], none, rfl, Nat.zero_le _, rfl, hc0, ea.symm, good_fresh (Nat.zero_le _), B2⟩, ?_⟩
    rintro m σ H2 ⟨u, f, cs, s, nw, y, acc, v, rfl, hu, rfl, hc, he, G, B⟩
    have hS2 : SqL K H2 a (ns.map V.int) := B.same.seq (hSt _)
    refine t_v (v_lt (v_var (v := .int u) rfl) (vl _ _ rfl hS2)) _ ?_
    by_cases hlt : u < ns.length
    · have d1 : decide ((u : Int) < (ns.length : Int)) = true := decide_eq_true (by omega)
      rw [d1]
      refine iteT ?_
      have hne : ns.drop u ≠ [] := fun z => by
        have k := congrArg List.length z
        rw [List.length_drop, List.length_nil] at k
        omega
      obtain ⟨c, cs', t, f', hd, hc', hdue⟩ := at_call (s := s) hc hne
      have hlen : ns.length - u = (enc c).length + t.length := by
        rw [← List.length_drop, hd, List.length_append]
      have hp := enc_pos c
      have ht : ns.drop (u + (enc c).length) = t := by
        rw [← List.drop_drop, hd, List.drop_left']
        rfl
      generalize hw : (Kg59.spec s c).2.value :: (Kg59.spec s c).2.out = ws at hdue
      rw [hdue] at he
      have hsz : acc.length + (ws.length + 1) ≤ 10000000 := by
        have k := congrArg List.length he
        rw [List.length_append, List.length_append, List.length_cons] at k
        omega
      refine ⟨_, fun σ' H' z => z, ?_⟩
      refine ⟨_, rfl, _, rfl, _, rfl, _, b, s, nw, y, a, ns, u, c, t, rfl, B, G, hS2, hd, fun z k => (by cases k), fun p H3 nw3 y3 B3 G3 hp3 ep => ?_⟩
      have ep : H3 p = some (.lst (ws.map V.int)) := by rw [← hw]; exact ep
      have psp : p ≠ sp := fun z => by rw [z, upd_same] at hp3; cases hp3
      have e3 : H3 sp = some (.lst (acc.map V.int)) := B3.same _ _ upd_same
      have B4 := B3.frame_set (o' := HO.lst ((acc ++ [(ws.length : Int)]).map V.int)) upd_same
      rw [upd_upd] at B4
      have B5 := B4.frame_set (o' := HO.lst ((acc ++ ((ws.length : Int) :: ws)).map V.int)) upd_same
      rw [upd_upd, upd_upd] at B5
      -- said.append(len(told))
      have vt : Val (tCB (fun zs H Q => ∃ p ys, zs = [.ref p] ∧ (SqL K H p ys ∨ SqT K H p ys) ∧ Q (.int ys.length) H) (tCons (tVar 4) tNil)) [some (.ref a), some (.ref b), some (.ref sp), some (.int u), some (.ref p)] H3 (.int ws.length) := by
        have z := v_len (K := K) (σ := [some (.ref a), some (.ref b), some (.ref sp), some (.int u), some (.ref p)]) (te := tVar 4) (v_var rfl) (SqL.of ep)
        rw [List.length_map] at z
        exact z
      have ap : ∀ x : List Int, acc.map V.int ++ x.map V.int = (acc ++ x).map V.int := fun x => (List.map_append ..).symm
      refine ⟨_, rfl, .inl ⟨rfl, _, SqL.of e3⟩, ?_⟩
      refine vt _ ?_
      refine ⟨sp, _, .int ws.length, rfl, rfl, e3, ?_, ?_⟩
      · rw [List.length_map]
        exact Nat.lt_of_le_of_lt (show acc.length ≤ 10000000 by omega) (by decide)
      -- said.extend(told)
      refine ⟨_, rfl, .inl ⟨rfl, _, SqL.of upd_same⟩, _, rfl, sp, p, _, ws.map V.int, rfl, rfl, upd_same, by rw [upd_ne psp]; exact ep, ?_, ?_⟩
      · rw [List.length_append, List.length_map, List.length_map]
        exact Nat.le_trans (show acc.length + 1 + ws.length ≤ 10000000 by omega) (by decide)
      rw [upd_upd]
      have el : acc.map V.int ++ [V.int (ws.length : Int)] ++ ws.map V.int = (acc ++ ((ws.length : Int) :: ws)).map V.int := by
        rw [List.map_append, List.append_assoc]
        rfl
      rw [el]
      -- at += call_length(calls, at)
      have hS5 : SqL K (upd H3 sp (.lst ((acc ++ ((ws.length : Int) :: ws)).map V.int))) a (ns.map V.int) := B5.same.seq (hSt _)
      refine ⟨_, rfl, ?_⟩
      refine ⟨_, rfl, _, rfl, a, ns, u, c, t, rfl, hS5, hd, ?_⟩
      refine ⟨_, _, rfl, rfl, ns.length - (u + (enc c).length), by omega, u + (enc c).length, f', cs', _, nw3, y3, acc ++ ((ws.length : Int) :: ws), some (.ref p), rfl, by omega, ?_, by rw [ht]; exact hc', ?_, G3, B5⟩
      · show [some (V.ref a), some (V.ref b), some (V.ref sp), some (V.int ((u : Int) + ((enc c).length : Int))), some (V.ref p)] = _
        have en : (u : Int) + ((enc c).length : Int) = ((u + (enc c).length : Nat) : Int) := by omega
        rw [en]
      · rw [List.append_assoc]
        exact he
    · have d1 : decide ((u : Int) < (ns.length : Int)) = false := decide_eq_false (by omega)
      rw [d1]
      refine iteF ?_
      have e0 : ns.drop u = [] := List.drop_eq_nil_of_le (by omega)
      rw [e0] at hc
      rw [calls_nil hc, due_nil, List.append_nil] at he
      refine s_ret (v_var rfl) (q H2 sp ?_)
      rw [← he]
      exact B.same _ _ upd_same
end
end BC
namespace BC
open PySem PySem.Spec PyProof.Rows L2
theorem binds_answers (kV dc pm : Value) (an : Option Addr) (cd ct : Value) (s : Shared) (us : List Value) (hu : us.length = (["calls"] : List Str).length) : BindsTo s (PySem.W.fnOf "answers" "answers" (defArgs s_answers) (defBody s_answers) (defScope s_answers) .none kV dc pm an cd ct) ⟨us, []⟩ ((["calls"] : List Str).zip us) :=
  match us, hu with | [_], _ => .of_eq rfl
end BC
open PySem PySem.W PyProof.Rows
set_option maxRecDepth 100000 in
set_option maxHeartbeats 8000000 in
theorem PySem.Challenge.cw_barcontest_s01_answers_holds : PySem.Challenge.rw_barcontest_s01_answers.Holds := by
  w_on; k_headS; (case hw => exact ⟨[.list [.int 4]], by decide +kernel, by decide +kernel⟩)
  k_fillS
  refine L2.walk_specK (r := PySem.Challenge.rw_barcontest_s01_answers) (k := 9) (CX := L2.CX0) (ps := ["calls"]) (sp := BC.spAns) (by decide +kernel) rfl rfl ⟨rfl, by decide, by decide⟩ (fun w h Y => PySem.W.kIn_of Y) ?F ?S (fun _ _ _ _ z => z)
  case F =>
    intro w mg fa h Y KX G hmg
    refine' Exists.elim (BC.txt_mk KX G ?aPart ?pgPart ?hdPart ?poPart ?saPart ?mkPart ?kcPart ?n_asks ?n_changed ?n_weights ?n_marks ?n_moments ?aBoard ?pgBoard ?hdBoard ?poBoard ?saBoard ?mkBoard ?kcBoard ?n_teams ?n_parts ?n_lift ?n_tries ?n_newest_lifter ?n_newest_lift ?a_right_weight ?l_right_weight ?c_right_weight ?k_right_weight ?a_Part_init ?i_Part_init ?l_Part_init ?c_Part_init ?k_Part_init ?a_made ?i_made ?l_made ?c_made ?k_made ?a_moment ?i_moment ?l_moment ?c_moment ?k_moment ?a_last_weight ?i_last_weight ?l_last_weight ?c_last_weight ?k_last_weight ?a_last_mark ?i_last_mark ?l_last_mark ?c_last_mark ?k_last_mark ?a_needs ?i_needs ?l_needs ?c_needs ?k_needs ?a_best ?i_best ?l_best ?c_best ?k_best ?a_ask_for ?i_ask_for ?l_ask_for ?c_ask_for ?k_ask_for ?a_change_to ?i_change_to ?l_change_to ?c_change_to ?k_change_to ?a_take ?i_take ?l_take ?c_take ?k_take ?a_turn ?i_turn ?l_turn ?c_turn ?k_turn ?a_Board_init ?i_Board_init ?l_Board_init ?c_Board_init ?k_Board_init ?a_renew ?i_renew ?l_renew ?c_renew ?k_renew ?a_begun ?i_begun ?l_begun ?c_begun ?k_begun ?a_running ?i_running ?l_running ?c_running ?k_running ?a_knows ?i_knows ?l_knows ?c_knows ?k_knows ?a_part_now ?i_part_now ?l_part_now ?c_part_now ?k_part_now ?a_tried_last ?i_tried_last ?l_tried_last ?c_tried_last ?k_tried_last ?a_bar ?i_bar ?l_bar ?c_bar ?k_bar ?a_note_attempt ?i_note_attempt ?l_note_attempt ?c_note_attempt ?k_note_attempt ?a_move_on ?i_move_on ?l_move_on ?c_move_on ?k_move_on ?a_left ?l_left ?c_left ?k_left ?a_calling_row ?l_calling_row ?c_calling_row ?k_calling_row ?a_calling_order ?l_calling_order ?c_calling_order ?k_calling_order ?a_first_called ?l_first_called ?c_first_called ?k_first_called ?a_up ?l_up ?c_up ?k_up ?a_order ?l_order ?c_order ?k_order ?a_try_one ?l_try_one ?c_try_one ?k_try_one ?a_turn_round ?l_turn_round ?c_turn_round ?k_turn_round ?a_last_comes_ahead ?l_last_comes_ahead ?c_last_comes_ahead ?k_last_comes_ahead ?a_may_ask ?l_may_ask ?c_may_ask ?k_may_ask ?a_change ?l_change ?c_change ?k_change ?a_right_team ?l_right_team ?c_right_team ?k_right_team ?a_right_teams ?l_right_teams ?c_right_teams ?k_right_teams ?a_begin ?l_begin ?c_begin ?k_begin ?a_ask ?l_ask ?c_ask ?k_ask ?a_all_asked ?l_all_asked ?c_all_asked ?k_all_asked ?a_start ?l_start ?c_start ?k_start ?a_card ?l_card ?c_card ?k_card ?a_result ?l_result ?c_result ?k_result ?a_ranking ?l_ranking ?c_ranking ?k_ranking ?a_ranked ?l_ranked ?c_ranked ?k_ranked ?a_worth ?l_worth ?c_worth ?k_worth ?a_order_points ?l_order_points ?c_order_points ?k_order_points ?a_points ?l_points ?c_points ?k_points ?a_call_length ?l_call_length ?c_call_length ?k_call_length ?a_answer_ahead ?l_answer_ahead ?c_answer_ahead ?k_answer_ahead ?a_answer_behind ?l_answer_behind ?c_answer_behind ?k_answer_behind ?a_answer ?l_answer ?c_answer ?k_answer ?a_answers ?l_answers ?c_answers ?k_answers ?v_ATTEMPTS ?v_CHANGES ?v_LEAST_WEIGHT ?v_MOST_WEIGHT ?v_GOOD ?v_PASSED ?v_NOBODY ?v_WAITING ?v_OVER ?v_OWN_SECONDS ?v_SECONDS ?v_MOST_LIFTERS ?v_MOST_TEAM ?v_NOTHING ?l_NOTHING ?v_ORDERS ?v_BOTH ?v_FIRST_WORTH ?v_SECOND_WORTH ?v_PLACES ?v_BEGIN ?v_MANY_NUMBERS ?l_MANY_NUMBERS ?z_enumerate ?z_len ?z_list ?z_max ?z_range ?z_sorted) ?rest
    (case aPart => k_is)
    (case pgPart => k_is)
    (case hdPart => k_is)
    (case poPart => k_is)
    (case saPart => k_is)
    (case mkPart => k_is)
    (case kcPart => k_is)
    (case n_asks => k_is)
    (case n_changed => k_is)
    (case n_weights => k_is)
    (case n_marks => k_is)
    (case n_moments => k_is)
    (case aBoard => k_is)
    (case pgBoard => k_is)
    (case hdBoard => k_is)
    (case poBoard => k_is)
    (case saBoard => k_is)
    (case mkBoard => k_is)
    (case kcBoard => k_is)
    (case n_teams => k_is)
    (case n_parts => k_is)
    (case n_lift => k_is)
    (case n_tries => k_is)
    (case n_newest_lifter => k_is)
    (case n_newest_lift => k_is)
    (case a_right_weight => k_is)
    (case l_right_weight => k_is)
    (case c_right_weight => k_is)
    (case k_right_weight => k_is)
    (case a_Part_init => k_is)
    (case i_Part_init => k_is)
    (case l_Part_init => k_is)
    (case c_Part_init => k_is)
    (case k_Part_init => k_is)
    (case a_made => k_is)
    (case i_made => k_is)
    (case l_made => k_is)
    (case c_made => k_is)
    (case k_made => k_is)
    (case a_moment => k_is)
    (case i_moment => k_is)
    (case l_moment => k_is)
    (case c_moment => k_is)
    (case k_moment => k_is)
    (case a_last_weight => k_is)
    (case i_last_weight => k_is)
    (case l_last_weight => k_is)
    (case c_last_weight => k_is)
    (case k_last_weight => k_is)
    (case a_last_mark => k_is)
    (case i_last_mark => k_is)
    (case l_last_mark => k_is)
    (case c_last_mark => k_is)
    (case k_last_mark => k_is)
    (case a_needs => k_is)
    (case i_needs => k_is)
    (case l_needs => k_is)
    (case c_needs => k_is)
    (case k_needs => k_is)
    (case a_best => k_is)
    (case i_best => k_is)
    (case l_best => k_is)
    (case c_best => k_is)
    (case k_best => k_is)
    (case a_ask_for => k_is)
    (case i_ask_for => k_is)
    (case l_ask_for => k_is)
    (case c_ask_for => k_is)
    (case k_ask_for => k_is)
    (case a_change_to => k_is)
    (case i_change_to => k_is)
    (case l_change_to => k_is)
    (case c_change_to => k_is)
    (case k_change_to => k_is)
    (case a_take => k_is)
    (case i_take => k_is)
    (case l_take => k_is)
    (case c_take => k_is)
    (case k_take => k_is)
    (case a_turn => k_is)
    (case i_turn => k_is)
    (case l_turn => k_is)
    (case c_turn => k_is)
    (case k_turn => k_is)
    (case a_Board_init => k_is)
    (case i_Board_init => k_is)
    (case l_Board_init => k_is)
    (case c_Board_init => k_is)
    (case k_Board_init => k_is)
    (case a_renew => k_is)
    (case i_renew => k_is)
    (case l_renew => k_is)
    (case c_renew => k_is)
    (case k_renew => k_is)
    (case a_begun => k_is)
    (case i_begun => k_is)
    (case l_begun => k_is)
    (case c_begun => k_is)
    (case k_begun => k_is)
    (case a_running => k_is)
    (case i_running => k_is)
    (case l_running => k_is)
    (case c_running => k_is)
    (case k_running => k_is)
    (case a_knows => k_is)
    (case i_knows => k_is)
    (case l_knows => k_is)
    (case c_knows => k_is)
    (case k_knows => k_is)
    (case a_part_now => k_is)
    (case i_part_now => k_is)
    (case l_part_now => k_is)
    (case c_part_now => k_is)
    (case k_part_now => k_is)
    (case a_tried_last => k_is)
    (case i_tried_last => k_is)
    (case l_tried_last => k_is)
    (case c_tried_last => k_is)
    (case k_tried_last => k_is)
    (case a_bar => k_is)
    (case i_bar => k_is)
    (case l_bar => k_is)
    (case c_bar => k_is)
    (case k_bar => k_is)
    (case a_note_attempt => k_is)
    (case i_note_attempt => k_is)
    (case l_note_attempt => k_is)
    (case c_note_attempt => k_is)
    (case k_note_attempt => k_is)
    (case a_move_on => k_is)
    (case i_move_on => k_is)
    (case l_move_on => k_is)
    (case c_move_on => k_is)
    (case k_move_on => k_is)
    (case a_left => k_is)
    (case l_left => k_is)
    (case c_left => k_is)
    (case k_left => k_is)
    (case a_calling_row => k_is)
    (case l_calling_row => k_is)
    (case c_calling_row => k_is)
    (case k_calling_row => k_is)
    (case a_calling_order => k_is)
    (case l_calling_order => k_is)
    (case c_calling_order => k_is)
    (case k_calling_order => k_is)
    (case a_first_called => k_is)
    (case l_first_called => k_is)
    (case c_first_called => k_is)
    (case k_first_called => k_is)
    (case a_up => k_is)
    (case l_up => k_is)
    (case c_up => k_is)
    (case k_up => k_is)
    (case a_order => k_is)
    (case l_order => k_is)
    (case c_order => k_is)
    (case k_order => k_is)
    (case a_try_one => k_is)
    (case l_try_one => k_is)
    (case c_try_one => k_is)
    (case k_try_one => k_is)
    (case a_turn_round => k_is)
    (case l_turn_round => k_is)
    (case c_turn_round => k_is)
    (case k_turn_round => k_is)
    (case a_last_comes_ahead => k_is)
    (case l_last_comes_ahead => k_is)
    (case c_last_comes_ahead => k_is)
    (case k_last_comes_ahead => k_is)
    (case a_may_ask => k_is)
    (case l_may_ask => k_is)
    (case c_may_ask => k_is)
    (case k_may_ask => k_is)
    (case a_change => k_is)
    (case l_change => k_is)
    (case c_change => k_is)
    (case k_change => k_is)
    (case a_right_team => k_is)
    (case l_right_team => k_is)
    (case c_right_team => k_is)
    (case k_right_team => k_is)
    (case a_right_teams => k_is)
    (case l_right_teams => k_is)
    (case c_right_teams => k_is)
    (case k_right_teams => k_is)
    (case a_begin => k_is)
    (case l_begin => k_is)
    (case c_begin => k_is)
    (case k_begin => k_is)
    (case a_ask => k_is)
    (case l_ask => k_is)
    (case c_ask => k_is)
    (case k_ask => k_is)
    (case a_all_asked => k_is)
    (case l_all_asked => k_is)
    (case c_all_asked => k_is)
    (case k_all_asked => k_is)
    (case a_start => k_is)
    (case l_start => k_is)
    (case c_start => k_is)
    (case k_start => k_is)
    (case a_card => k_is)
    (case l_card => k_is)
    (case c_card => k_is)
    (case k_card => k_is)
    (case a_result => k_is)
    (case l_result => k_is)
    (case c_result => k_is)
    (case k_result => k_is)
    (case a_ranking => k_is)
    (case l_ranking => k_is)
    (case c_ranking => k_is)
    (case k_ranking => k_is)
    (case a_ranked => k_is)
    (case l_ranked => k_is)
    (case c_ranked => k_is)
    (case k_ranked => k_is)
    (case a_worth => k_is)
    (case l_worth => k_is)
    (case c_worth => k_is)
    (case k_worth => k_is)
    (case a_order_points => k_is)
    (case l_order_points => k_is)
    (case c_order_points => k_is)
    (case k_order_points => k_is)
    (case a_points => k_is)
    (case l_points => k_is)
    (case c_points => k_is)
    (case k_points => k_is)
    (case a_call_length => k_is)
    (case l_call_length => k_is)
    (case c_call_length => k_is)
    (case k_call_length => k_is)
    (case a_answer_ahead => k_is)
    (case l_answer_ahead => k_is)
    (case c_answer_ahead => k_is)
    (case k_answer_ahead => k_is)
    (case a_answer_behind => k_is)
    (case l_answer_behind => k_is)
    (case c_answer_behind => k_is)
    (case k_answer_behind => k_is)
    (case a_answer => k_is)
    (case l_answer => k_is)
    (case c_answer => k_is)
    (case k_answer => k_is)
    (case a_answers => k_is)
    (case l_answers => k_is)
    (case c_answers => k_is)
    (case k_answers => k_is)
    (case v_ATTEMPTS => k_is)
    (case v_CHANGES => k_is)
    (case v_LEAST_WEIGHT => k_is)
    (case v_MOST_WEIGHT => k_is)
    (case v_GOOD => k_is)
    (case v_PASSED => k_is)
    (case v_NOBODY => k_is)
    (case v_WAITING => k_is)
    (case v_OVER => k_is)
    (case v_OWN_SECONDS => k_is)
    (case v_SECONDS => k_is)
    (case v_MOST_LIFTERS => k_is)
    (case v_MOST_TEAM => k_is)
    (case v_NOTHING => k_is)
    (case l_NOTHING => k_is)
    (case v_ORDERS => k_is)
    (case v_BOTH => k_is)
    (case v_FIRST_WORTH => k_is)
    (case v_SECOND_WORTH => k_is)
    (case v_PLACES => k_is)
    (case v_BEGIN => k_is)
    (case v_MANY_NUMBERS => k_is)
    (case l_MANY_NUMBERS => k_is)
    (case z_enumerate => k_is)
    (case z_len => k_is)
    (case z_list => k_is)
    (case z_max => k_is)
    (case z_range => k_is)
    (case z_sorted => k_is)
    case rest =>
      rintro A ⟨eA, eD, T⟩
      have e := hmg.symm.trans T.g_answers
      cases e
      refine ⟨A.d_answers, ?_, fun base _ _ => BC.ok_answers T⟩
      rw [eD]
      exact fun s us hu => BC.binds_answers _ _ _ _ _ _ s us hu
  case S =>
    intro K H xs a hO hwi hask hx
    cases hx with
    | cons h1 h2 =>
      cases h2
      cases h1 with
      | lst hs ha =>
        have e := L2.ints_dw a.1 _ ha
        subst e
        exact ⟨_, a.1, rfl, hs, hask, fun H' p hp => .lst (L2.SqL.of hp) (L2.dw_ints _)⟩
#print axioms PySem.Challenge.cw_barcontest_s01_answers_holds
