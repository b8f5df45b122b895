import PyProof.Rows.All
import Wide.All
import OpenK.AllK
import Wide.FinOn
import PyProof.EqAt
import PyProof.EqKinds
import PyProof.NeKinds
import PyProof.TupleCall
import Open.SpecLaws
import KE.OsGo
import HandS.ForSpec
import HandS.ForMost
import HandS.Evl
import HandS.Walk
import HandS.Deep
import HandS.Conv
import HandS.Zip
import KE.KDictZip
import PySem.Challenge.RW_rehearsalday_s01_answers
set_option Elab.async false
set_option linter.all false
set_option maxRecDepth 100000
set_option maxHeartbeats 8000000
section RdMath1
set_option autoImplicit false
/-! The plain law, part 1: stays, waits, costs, what is wrong. No program here. -/
namespace Reh
open Uw03

/-- a stay: when they come, when they go, how long they are in pieces -/
structure Sy where
  comes : Nat
  goes : Nat
  busy : Nat
deriving DecidableEq

/-- one piece more behind a stay so far (f) and the minute at which it begins -/
def syStep (d : Day) (a : Nat) (s : Option Sy × Nat) (n : Nat) : Option Sy × Nat :=
  (if d.has n a = true then some (match s.1 with
    | none => ⟨s.2, s.2 + d.long n, d.long n⟩
    | some x => ⟨x.comes, s.2 + d.long n, x.busy + d.long n⟩) else s.1, s.2 + d.long n)
def syRun (d : Day) (o : Order) (a : Nat) : Option Sy × Nat := o.foldl (syStep d a) (none, 0)
def syIn (d : Day) (o : Order) (a : Nat) : Option Sy := (syRun d o a).1

theorem total_nil : total [] = 0 := rfl
theorem foldl_add (l : List Nat) : ∀ a : Nat, l.foldl (fun a b => a + b) a = a + total l := by
  induction l with
  | nil => intro a; rfl
  | cons x l ih =>
    intro a
    show l.foldl (fun a b => a + b) (a + x) = a + l.foldl (fun a b => a + b) (0 + x)
    rw [ih, ih]
    omega
theorem total_cons (x : Nat) (l : List Nat) : total (x :: l) = x + total l := by
  show l.foldl (fun a b => a + b) (0 + x) = x + total l
  rw [foldl_add]
  omega
theorem total_append (l r : List Nat) : total (l ++ r) = total l + total r := by
  induction l with
  | nil => rw [List.nil_append, total_nil]; omega
  | cons x l ih => rw [List.cons_append, total_cons, total_cons, ih]; omega
theorem total_one (x : Nat) : total [x] = x := by rw [total_cons, total_nil]; omega

/-- the places below k in which a player is -/
def plc (d : Day) (o : Order) (a k : Nat) : List Nat := (List.range k).filter fun j => d.has (o.getD j 0) a
/-- the stay told by places -/
def syOf (d : Day) (o : Order) (ps : List Nat) : Option Sy := match ps.head?, ps.getLast? with
  | some k, some l => some ⟨d.begin_ o k, d.begin_ o (l + 1), total (ps.map fun j => d.long (o.getD j 0))⟩
  | _, _ => none

theorem begin_succ (d : Day) (o : Order) (k : Nat) (h : k < o.length) : d.begin_ o (k + 1) = d.begin_ o k + d.long (o.getD k 0) := by
  unfold Day.begin_
  rw [List.take_add_one, List.getElem?_eq_getElem h, List.map_append, total_append]
  have e : o.getD k 0 = o[k] := by rw [List.getD_eq_getElem?_getD, List.getElem?_eq_getElem h]; rfl
  rw [e]
  show _ + total [d.long o[k]] = _
  rw [total_one]

theorem syRun_take (d : Day) (o : Order) (a : Nat) : ∀ k : Nat, k ≤ o.length → syRun d (o.take k) a = (syOf d o (plc d o a k), d.begin_ o k) := by
  intro k
  induction k with
  | zero => intro _; rfl
  | succ k ih =>
    intro hk
    have h : k < o.length := hk
    have e : o.getD k 0 = o[k] := by rw [List.getD_eq_getElem?_getD, List.getElem?_eq_getElem h]; rfl
    have r : syRun d (o.take (k + 1)) a = syStep d a (syRun d (o.take k) a) o[k] := by
      unfold syRun
      rw [List.take_add_one, List.getElem?_eq_getElem h, List.foldl_append]
      rfl
    rw [r, ih (Nat.le_of_lt h), begin_succ d o k h, e]
    unfold syStep
    have p : plc d o a (k + 1) = plc d o a k ++ (if d.has o[k] a = true then [k] else []) := by
      unfold plc
      rw [List.range_succ, List.filter_append, List.filter_cons, List.filter_nil, e]
    rw [p]
    by_cases c : d.has o[k] a = true
    · rw [if_pos c, if_pos c]
      have b := begin_succ d o k h
      rw [e] at b
      cases q : plc d o a k with
      | nil =>
        show (some (Sy.mk _ _ _), _) = (some (Sy.mk _ _ (total [d.long (o.getD k 0)])), _)
        rw [total_one, e]
        show (some (Sy.mk (d.begin_ o k) (d.begin_ o k + _) _), _) = (some (Sy.mk _ (d.begin_ o (k + 1)) _), _)
        rw [b]
      | cons x l =>
        have hl : ((x :: l) ++ [k]).getLast? = some k := List.getLast?_concat
        have hh : ((x :: l) ++ [k]).head? = some x := rfl
        have hx : ∃ y, (x :: l).getLast? = some y := by
          cases z : (x :: l).getLast? with
          | none => exact absurd (List.getLast?_eq_none_iff.mp z) (List.cons_ne_nil _ _)
          | some y => exact ⟨y, rfl⟩
        obtain ⟨y, hy⟩ := hx
        have s1 : syOf d o (x :: l) = some ⟨d.begin_ o x, d.begin_ o (y + 1), total ((x :: l).map fun j => d.long (o.getD j 0))⟩ := by
          unfold syOf
          rw [hy]
          rfl
        have s2 : syOf d o ((x :: l) ++ [k]) = some ⟨d.begin_ o x, d.begin_ o (k + 1), total (((x :: l) ++ [k]).map fun j => d.long (o.getD j 0))⟩ := by
          unfold syOf
          rw [hl, hh]
        rw [s1, s2, List.map_append, total_append, b]
        show (some (Sy.mk _ _ _), _) = (some (Sy.mk _ _ (_ + total [d.long (o.getD k 0)])), _)
        rw [total_one, e]
    · rw [if_neg c, if_neg c, List.append_nil]

theorem syIn_of (d : Day) (o : Order) (a : Nat) : syIn d o a = syOf d o (d.places o a) := by
  have h := syRun_take d o a o.length (Nat.le_refl _)
  rw [List.take_length] at h
  unfold syIn
  rw [h]
  rfl

theorem stays_eq (d : Day) (o : Order) (a : Nat) : d.stays o a = (syIn d o a).map fun s => (s.comes, s.goes) := by
  rw [syIn_of]
  unfold Day.stays syOf
  cases (d.places o a).head? <;> cases (d.places o a).getLast? <;> rfl

/-- a stay holds what is waited -/
def SyOk (s : Sy) : Prop := s.comes + s.busy ≤ s.goes
theorem syRun_ok (d : Day) (a : Nat) : ∀ (o : Order) (s : Option Sy × Nat), (∀ x, s.1 = some x → SyOk x ∧ x.goes ≤ s.2) → ∀ x, (o.foldl (syStep d a) s).1 = some x → SyOk x ∧ x.goes ≤ (o.foldl (syStep d a) s).2 := by
  intro o
  induction o with
  | nil => intro s h x hx; exact h x hx
  | cons n o ih =>
    intro s h
    refine ih (syStep d a s n) ?_
    intro x hx
    unfold syStep at hx ⊢
    dsimp only at hx ⊢
    by_cases c : d.has n a = true
    · rw [if_pos c] at hx
      cases q : s.1 with
      | none =>
        rw [q] at hx
        cases hx
        refine ⟨?_, Nat.le_refl _⟩
        unfold SyOk
        exact Nat.le_refl _
      | some y =>
        rw [q] at hx
        obtain ⟨h1, h2⟩ := h y q
        cases hx
        refine ⟨?_, Nat.le_refl _⟩
        unfold SyOk at h1 ⊢
        dsimp only
        omega
    · rw [if_neg c] at hx
      obtain ⟨h1, h2⟩ := h x hx
      exact ⟨h1, by omega⟩
theorem syIn_ok {d : Day} {o : Order} {a : Nat} {x : Sy} (h : syIn d o a = some x) : SyOk x := (syRun_ok d a o (none, 0) (fun _ z => nomatch z) x h).1
theorem syOk_le {x : Sy} (h : SyOk x) : x.comes ≤ x.goes ∧ x.busy ≤ x.goes - x.comes := by
  unfold SyOk at h
  omega

theorem waits_eq (d : Day) (o : Order) (a : Nat) : d.waits o a = match syIn d o a with
    | some s => s.goes - s.comes - s.busy
    | none => 0 := by
  rw [syIn_of]
  unfold Day.waits Day.stays syOf
  cases (d.places o a).head? <;> cases (d.places o a).getLast? <;> rfl

/-- the numbers of a player's list -/
def syNums (s : Sy) : List Nat := [s.comes, s.goes, s.goes - s.comes - s.busy]
def syTold : Option Sy → List Nat
  | none => []
  | some s => syNums s
theorem tell_eq (d : Day) (o : Order) : d.tell o = (List.range d.players.length).map fun a => syTold (syIn d o a) := by
  unfold Day.tell
  refine List.map_congr_left fun a _ => ?_
  rw [stays_eq, waits_eq]
  cases syIn d o a <;> rfl

/-! ### lists with places -/
theorem zipIdx_mem {α : Type} {l : List α} {x : α × Nat} (h : x ∈ l.zipIdx) : l[x.2]? = some x.1 := List.mem_zipIdx_iff_getElem?.mp h
theorem zipIdx_map_to {α β : Type} {l : List α} {f : α × Nat → β} {g : Nat → β} (h : ∀ i x, l[i]? = some x → f (x, i) = g i) : l.zipIdx.map f = (List.range l.length).map g := by
  have e : l.zipIdx.map f = l.zipIdx.map (g ∘ Prod.snd) := List.map_congr_left fun x hx => h x.2 x.1 (zipIdx_mem hx)
  rw [e, ← List.map_map, List.zipIdx_map_snd, ← List.range_eq_range']
theorem zipIdx_find_to {α β : Type} {l : List α} {f : α × Nat → Option β} {g : Nat → Option β} (h : ∀ i x, l[i]? = some x → f (x, i) = g i) : l.zipIdx.findSome? f = (List.range l.length).findSome? g := by
  have e : ∀ m : List (α × Nat), (∀ x ∈ m, l[x.2]? = some x.1) → m.findSome? f = (m.map Prod.snd).findSome? g := by
    intro m
    induction m with
    | nil => intro _; rfl
    | cons x m ih =>
      intro hm
      rw [List.map_cons, List.findSome?_cons, List.findSome?_cons, ← h x.2 x.1 (hm x (List.mem_cons_self ..)), ih fun y hy => hm y (List.mem_cons_of_mem _ hy)]
  rw [e _ fun x hx => zipIdx_mem hx, List.zipIdx_map_snd, ← List.range_eq_range']
theorem find_range_none {β : Type} {g : Nat → Option β} {n : Nat} (h : ∀ i, i < n → g i = none) : (List.range n).findSome? g = none :=
  List.findSome?_eq_none_iff.mpr fun i hi => h i (List.mem_range.mp hi)
theorem find_range_some {β : Type} {g : Nat → Option β} {n k : Nat} {y : β} (hk : k < n) (h : ∀ i, i < k → g i = none) (hy : g k = some y) : (List.range n).findSome? g = some y := by
  obtain ⟨m, rfl⟩ : ∃ m, n = k + 1 + m := ⟨n - (k + 1), by omega⟩
  rw [List.range_add, List.findSome?_append, List.range_succ, List.findSome?_append, find_range_none h]
  simp [hy]
theorem findIdx_some_at {α : Type} {p : α → Bool} {l : List α} {k : Nat} {x : α} (hk : l[k]? = some x) (hx : p x = true) (h : ∀ (i : Nat) (y : α), i < k → l[i]? = some y → p y = false) : l.findIdx? p = some k := by
  obtain ⟨hl, e⟩ := List.getElem?_eq_some_iff.mp hk
  refine List.findIdx?_eq_some_iff_getElem.mpr ⟨hl, by rw [e]; exact hx, fun j hj => ?_⟩
  rw [h j _ hj (List.getElem?_eq_getElem (by omega))]
  exact Bool.false_ne_true
theorem findIdx_none_at {α : Type} {p : α → Bool} {l : List α} (h : ∀ (i : Nat) (y : α), l[i]? = some y → p y = false) : l.findIdx? p = none := by
  refine List.findIdx?_eq_none_iff.mpr fun x hx => ?_
  obtain ⟨i, hi⟩ := List.getElem?_of_mem hx
  exact h i x hi

/-! ### what an order costs -/
def costAt (d : Day) (o : Order) (i : Nat) : Nat := match d.players[i]?, syIn d o i with
  | some p, some s => p.rate * (s.goes - s.comes)
  | _, _ => 0
theorem cost_eq (d : Day) (o : Order) : d.cost o = total ((List.range d.players.length).map (costAt d o)) := by
  unfold Day.cost
  rw [zipIdx_map_to (g := costAt d o)]
  intro i x hx
  unfold costAt
  dsimp only
  rw [hx, stays_eq]
  cases syIn d o i <;> rfl
theorem total_filter {g : Nat → Nat} {f : Nat → Bool} (h : ∀ i, f i = false → g i = 0) : ∀ l : List Nat, total ((l.filter f).map g) = total (l.map g) := by
  intro l
  induction l with
  | nil => rfl
  | cons x l ih =>
    rw [List.filter_cons, List.map_cons, total_cons]
    cases c : f x with
    | true => rw [if_pos rfl, List.map_cons, total_cons, ih]
    | false => rw [if_neg Bool.false_ne_true, ih, h x c, Nat.zero_add]
theorem sum_total : ∀ l : List Nat, (l.map fun n : Nat => (n : Int)).sum = (total l : Int) := by
  intro l
  induction l with
  | nil => rfl
  | cons x l ih => rw [List.map_cons, List.sum_cons, total_cons, ih]; omega
/-- the sum that cost_of makes: only of those who are there -/
theorem cost_sum (d : Day) (o : Order) : (((List.range d.players.length).filter fun i => (syIn d o i).isSome).map fun i => (costAt d o i : Int)).sum = (d.cost o : Int) := by
  have e : (((List.range d.players.length).filter fun i => (syIn d o i).isSome).map fun i => (costAt d o i : Int)) = (((List.range d.players.length).filter fun i => (syIn d o i).isSome).map (costAt d o)).map fun n : Nat => (n : Int) := by
    rw [List.map_map]
    rfl
  rw [e, sum_total, total_filter, ← cost_eq]
  intro i hi
  unfold costAt
  cases q : syIn d o i with
  | none => cases d.players[i]? <;> rfl
  | some s => rw [q] at hi; cases hi

/-! ### what is wrong -/
/-- what stay_wrong tells -/
def kindOf (p : Player) : Option Sy → Nat
  | none => 0
  | some s => if s.comes < p.from_ then 2 else if p.till < s.goes then 3 else 0
def kindAt (d : Day) (o : Order) (i : Nat) : Nat := match d.players[i]? with
  | some p => kindOf p (syIn d o i)
  | none => 0
theorem kind_le (p : Player) (s : Option Sy) : kindOf p s ≤ 3 := by
  unfold kindOf
  split
  · omega
  · split
    · omega
    · split <;> omega
def behind (o : Order) (x : Nat × Nat) : Bool := decide (o.idxOf x.2 < o.idxOf x.1)
theorem wrong_eq (d : Day) (o : Order) : d.wrong o = match d.ahead.findIdx? (behind o) with
    | some i => some (1, i)
    | none => (List.range d.players.length).findSome? fun i => if 0 < kindAt d o i then some (kindAt d o i, i) else none := by
  unfold Day.wrong
  show (match d.ahead.findIdx? (behind o) with | some i => _ | none => _) = _
  cases d.ahead.findIdx? (behind o) with
  | some i => rfl
  | none =>
    refine zipIdx_find_to fun i x hx => ?_
    unfold kindAt
    dsimp only
    rw [hx, stays_eq]
    cases syIn d o i with
    | none => rfl
    | some s =>
      show (if s.comes < x.from_ then some (2, i) else if x.till < s.goes then some (3, i) else none) = (if 0 < (if s.comes < x.from_ then 2 else if x.till < s.goes then 3 else 0) then _ else _)
      by_cases c1 : s.comes < x.from_
      · simp [kindOf, c1]
      · by_cases c2 : x.till < s.goes
        · simp [kindOf, c1, c2]
        · simp [c1, c2]
/-- what wrong_with answers -/
def wrongTold : Option (Nat × Nat) → List Nat
  | none => []
  | some x => [x.1, x.2]
theorem wrong_pair {d : Day} {o : Order} {i : Nat} (h : d.ahead.findIdx? (behind o) = some i) : d.wrong o = some (1, i) := by rw [wrong_eq, h]
theorem wrong_who {d : Day} {o : Order} {i : Nat} (h : d.ahead.findIdx? (behind o) = none) (hi : i < d.players.length) (h0 : ∀ j, j < i → kindAt d o j = 0) (hk : 0 < kindAt d o i) : d.wrong o = some (kindAt d o i, i) := by
  rw [wrong_eq, h]
  refine find_range_some hi (fun j hj => ?_) ?_
  · rw [h0 j hj]; rfl
  · rw [if_pos hk]
theorem wrong_none {d : Day} {o : Order} (h : d.ahead.findIdx? (behind o) = none) (h0 : ∀ j, j < d.players.length → kindAt d o j = 0) : d.wrong o = none := by
  rw [wrong_eq, h]
  refine find_range_none fun j hj => ?_
  rw [h0 j hj]; rfl
end Reh
end RdMath1
section RdMath2
set_option autoImplicit false
/-! The plain law, part 2: all orders, the best, check's test, work. -/
namespace Reh
open Uw03

/-! ### all orders -/
def rest (n : Nat) (o : List Nat) : List Nat := (List.range n).filter fun x => !(o.contains x)
def ext (n : Nat) (o : List Nat) : List (List Nat) := (rest n o).map fun x => o ++ [x]
def ordIt (n : Nat) : Nat → List (List Nat)
  | 0 => [[]]
  | k + 1 => (ordIt n k).flatMap (ext n)
def itF (n : Nat) : Nat → List (List Nat) → List (List Nat)
  | 0, F => F
  | k + 1, F => itF n k (F.flatMap (ext n))
theorem itF_succ (n : Nat) : ∀ (k : Nat) (F : List (List Nat)), itF n (k + 1) F = (itF n k F).flatMap (ext n) := by
  intro k
  induction k with
  | zero => intro F; rfl
  | succ k ih => intro F; exact ih (F.flatMap (ext n))
theorem ordIt_itF (n : Nat) : ∀ k : Nat, ordIt n k = itF n k [[]] := by
  intro k
  induction k with
  | zero => rfl
  | succ k ih => rw [itF_succ, ← ih]; rfl
theorem itF_each (n : Nat) : ∀ (k : Nat) (F : List (List Nat)), itF n k F = F.flatMap fun p => itF n k [p] := by
  intro k
  induction k with
  | zero => intro F; show F = F.flatMap fun p => [p]; simp
  | succ k ih =>
    intro F
    have e : ∀ p : List Nat, itF n (k + 1) [p] = itF n k (ext n p) := fun p => by
      show itF n k ([p].flatMap (ext n)) = _
      rw [List.flatMap_singleton]
    show itF n k (F.flatMap (ext n)) = _
    rw [ih, List.flatMap_assoc]
    congr 1
    funext p
    rw [e, ih (ext n p)]
def perms : Nat → List Nat → List (List Nat)
  | 0, _ => [[]]
  | k + 1, l => l.flatMap fun x => (perms k (others x l)).map fun r => x :: r
theorem others_len : ∀ {l : List Nat} {x : Nat}, x ∈ l → (others x l).length + 1 = l.length
  | y :: l, x, h => by
    unfold others
    by_cases c : y = x
    · rw [if_pos c, List.length_cons]
    · rw [if_neg c, List.length_cons, List.length_cons]
      rcases List.mem_cons.mp h with e | m
      · exact absurd e.symm c
      · rw [others_len m]
theorem orders_perms : ∀ (n : Nat) (l : List Nat), l.length ≤ n → orders n l = perms l.length l := by
  intro n
  induction n with
  | zero =>
    intro l h
    cases l with
    | nil => rfl
    | cons x l => simp at h
  | succ n ih =>
    intro l h
    cases l with
    | nil => rfl
    | cons y l =>
      show (y :: l).flatMap (fun k => (orders n (others k (y :: l))).map fun r => k :: r) = (y :: l).flatMap fun x => (perms l.length (others x (y :: l))).map fun r => x :: r
      rw [List.length_cons] at h
      have e : ∀ x ∈ y :: l, orders n (others x (y :: l)) = perms l.length (others x (y :: l)) := fun x hx => by
        have hl := others_len hx
        rw [List.length_cons] at hl
        rw [ih _ (by omega)]
        congr 1
        omega
      have key : ∀ m : List Nat, (∀ x ∈ m, x ∈ y :: l) → m.flatMap (fun k => (orders n (others k (y :: l))).map fun r => k :: r) = m.flatMap fun x => (perms l.length (others x (y :: l))).map fun r => x :: r := by
        intro m
        induction m with
        | nil => intro _; rfl
        | cons z m ihm =>
          intro hm
          rw [List.flatMap_cons, List.flatMap_cons, e z (hm z (List.mem_cons_self ..)), ihm fun w hw => hm w (List.mem_cons_of_mem _ hw)]
      exact key _ fun _ hx => hx
theorem others_filter : ∀ {l : List Nat} (x : Nat), l.Nodup → others x l = l.filter fun y => !decide (y = x)
  | [], x, _ => rfl
  | y :: l, x, h => by
    obtain ⟨h1, h2⟩ := List.nodup_cons.mp h
    unfold others
    rw [List.filter_cons]
    by_cases c : y = x
    · rw [if_pos c, if_neg (by simp [c])]
      symm
      refine List.filter_eq_self.mpr fun z hz => ?_
      have : z ≠ x := fun e => h1 (by rw [c, ← e]; exact hz)
      simp [this]
    · rw [if_neg c, if_pos (by simp [c]), others_filter x h2]
theorem rest_nodup (n : Nat) (o : List Nat) : (rest n o).Nodup := (List.nodup_range).filter _
theorem others_rest (n : Nat) (o : List Nat) (x : Nat) : others x (rest n o) = rest n (o ++ [x]) := by
  rw [others_filter x (rest_nodup n o)]
  unfold rest
  rw [List.filter_filter]
  congr 1
  funext y
  by_cases c : y = x <;> simp [c]
theorem itF_perms (n : Nat) : ∀ (k : Nat) (p : List Nat), itF n k [p] = (perms k (rest n p)).map fun r => p ++ r := by
  intro k
  induction k with
  | zero => intro p; show [p] = [p ++ []]; rw [List.append_nil]
  | succ k ih =>
    intro p
    show itF n k ([p].flatMap (ext n)) = ((rest n p).flatMap fun x => (perms k (others x (rest n p))).map fun r => x :: r).map fun r => p ++ r
    rw [List.flatMap_singleton, itF_each, List.map_flatMap]
    unfold ext
    rw [List.flatMap_map]
    congr 1
    funext x
    rw [ih, others_rest, List.map_map]
    congr 1
    funext r
    show (p ++ [x]) ++ r = p ++ (x :: r)
    rw [List.append_assoc]
    rfl
theorem rest_nil (n : Nat) : rest n [] = List.range n := by
  unfold rest
  exact List.filter_eq_self.mpr fun _ _ => rfl
/-- the program's orders are the specification's -/
theorem ordIt_orders (n : Nat) : ordIt n n = orders n (List.range n) := by
  rw [ordIt_itF, itF_perms, rest_nil, orders_perms n _ (by rw [List.length_range]; exact Nat.le_refl _), List.length_range]
  simp
/-- an order of n pieces -/
structure IsOrd (n : Nat) (o : List Nat) : Prop where
  len : o.length = n
  nd : o.Nodup
  lt : ∀ x ∈ o, x < n
theorem ordIt_mem (n : Nat) : ∀ (k : Nat) (o : List Nat), o ∈ ordIt n k → o.length = k ∧ o.Nodup ∧ ∀ x ∈ o, x < n := by
  intro k
  induction k with
  | zero =>
    intro o h
    have e : o = [] := List.mem_singleton.mp h
    rw [e]
    exact ⟨rfl, List.nodup_nil, fun x hx => nomatch hx⟩
  | succ k ih =>
    intro o h
    obtain ⟨p, hp, ho⟩ := List.mem_flatMap.mp h
    obtain ⟨x, hx, rfl⟩ := List.mem_map.mp ho
    obtain ⟨h1, h2, h3⟩ := ih p hp
    have hx' := List.mem_filter.mp hx
    have hxr : x < n := List.mem_range.mp hx'.1
    have hxn : x ∉ p := by
      have := hx'.2
      simpa using this
    refine ⟨by rw [List.length_append, h1]; rfl, ?_, fun y hy => ?_⟩
    · refine List.nodup_append.mpr ⟨h2, by simp, fun a ha b hb e => ?_⟩
      have : b = x := by simpa using hb
      exact hxn (by rw [← this, ← e]; exact ha)
    · rcases List.mem_append.mp hy with m | m
      · exact h3 y m
      · have : y = x := by simpa using m
        rw [this]
        exact hxr
theorem isOrd_of {n : Nat} {o : List Nat} (h : o ∈ ordIt n n) : IsOrd n o := let ⟨a, b, c⟩ := ordIt_mem n n o h; ⟨a, b, c⟩
theorem len_flatMap_le {α β : Type} {f : α → List β} {n : Nat} (h : ∀ x, (f x).length ≤ n) : ∀ l : List α, (l.flatMap f).length ≤ l.length * n := by
  intro l
  induction l with
  | nil => simp
  | cons x l ih =>
    rw [List.flatMap_cons, List.length_append, List.length_cons, Nat.add_mul, Nat.one_mul]
    have := h x
    omega
theorem ext_len (n : Nat) (o : List Nat) : (ext n o).length ≤ n := by
  unfold ext rest
  rw [List.length_map]
  have := List.length_filter_le (fun x => !(o.contains x)) (List.range n)
  rw [List.length_range] at this
  exact this
theorem ordIt_len (n k : Nat) : (ordIt n k).length ≤ n ^ k := by
  induction k with
  | zero => exact Nat.le_refl _
  | succ k ih =>
    have h := len_flatMap_le (ext_len n) (ordIt n k)
    exact Nat.le_trans h (Nat.mul_le_mul_right n ih)
theorem ordIt_small {n k : Nat} (hn : n ≤ 6) (hk : k ≤ 6) : (ordIt n k).length ≤ 46656 :=
  Nat.le_trans (ordIt_len n k) (Nat.le_trans (Nat.pow_le_pow_left hn k) (Nat.pow_le_pow_right (by decide) hk))

theorem isOrd_mem {n : Nat} {o : List Nat} (h : IsOrd n o) : ∀ x, x < n → x ∈ o := by
  intro x hx
  refine Classical.byContradiction fun c => ?_
  have h1 : (x :: o).Nodup := List.nodup_cons.mpr ⟨c, h.nd⟩
  have h2 : (x :: o) ⊆ List.range n := fun y hy => by
    rcases List.mem_cons.mp hy with e | m
    · rw [e]; exact List.mem_range.mpr hx
    · exact List.mem_range.mpr (h.lt y m)
  have h3 := List.Nodup.length_le_of_subset h1 h2
  rw [List.length_cons, List.length_range, h.len] at h3
  omega
theorem sub_perm {l r : List Nat} : l.Nodup → (∀ x ∈ l, x ∈ r) → ∃ m, r.Perm (l ++ m) := by
  induction l generalizing r with
  | nil => intro _ _; exact ⟨r, List.Perm.refl _⟩
  | cons x l ih =>
    intro hn hs
    obtain ⟨h1, h2⟩ := List.nodup_cons.mp hn
    have p1 : r.Perm (x :: r.erase x) := List.perm_cons_erase (hs x (List.mem_cons_self ..))
    obtain ⟨m, hm⟩ := ih (r := r.erase x) h2 fun y hy => (List.mem_erase_of_ne (fun e => h1 (by rw [← e]; exact hy))).mpr (hs y (List.mem_cons_of_mem _ hy))
    exact ⟨m, p1.trans (List.Perm.cons x hm)⟩
/-- check's own test -/
def checkOk (n : Nat) (o : List Nat) : Bool := !(decide (o.length ≠ n ∨ (List.range n).all (fun i => o.contains i) = false))
theorem checkOk_perm {n : Nat} {o : List Nat} : checkOk n o = true ↔ o.Perm (List.range n) := by
  unfold checkOk
  constructor
  · intro h
    have h' : o.length = n ∧ (List.range n).all (fun i => o.contains i) = true := by
      have := of_decide_eq_false (Bool.not_eq_true' _ ▸ h)
      by_cases c : o.length = n
      · refine ⟨c, ?_⟩
        cases q : (List.range n).all (fun i => o.contains i) with
        | true => rfl
        | false => exact absurd (Or.inr q) this
      · exact absurd (Or.inl c) this
    obtain ⟨m, hm⟩ := sub_perm (l := List.range n) (r := o) List.nodup_range fun x hx => by
      have := List.all_eq_true.mp h'.2 x hx
      simpa using this
    have hl := hm.length_eq
    rw [List.length_append, List.length_range, h'.1] at hl
    have : m = [] := List.eq_nil_of_length_eq_zero (by omega)
    rw [this, List.append_nil] at hm
    exact hm
  · intro p
    have e1 : o.length = n := by rw [p.length_eq, List.length_range]
    have e2 : (List.range n).all (fun i => o.contains i) = true := List.all_eq_true.mpr fun x hx => by
      have := p.mem_iff.mpr hx
      simpa using this
    rw [e2]
    simp [e1]
theorem isOrd_of_perm {n : Nat} {o : List Nat} (p : o.Perm (List.range n)) : IsOrd n o :=
  ⟨by rw [p.length_eq, List.length_range], p.symm.nodup List.nodup_range, fun x hx => List.mem_range.mp (p.mem_iff.mp hx)⟩
def zi (l : List Nat) : List Int := l.map fun n : Nat => (n : Int)
theorem zi_inj : ∀ {l r : List Nat}, zi l = zi r → l = r
  | [], [], _ => rfl
  | [], _ :: _, h => nomatch h
  | _ :: _, [], h => nomatch h
  | x :: l, y :: r, h => by
    have h' : ((x : Int) :: zi l) = ((y : Int) :: zi r) := h
    injection h' with a b
    rw [zi_inj b, show x = y by omega]
theorem zi_len (l : List Nat) : (zi l).length = l.length := List.length_map ..
theorem zi_append (l r : List Nat) : zi (l ++ r) = zi l ++ zi r := List.map_append ..
/-- what sorted gives is the numbers below n just where the order has each -/
theorem sorted_check {n : Nat} {o : List Nat} {zs : List Int} (p : zs.Perm (zi o)) (s : zs.Pairwise (· ≤ ·)) : zs = zi (List.range n) ↔ checkOk n o = true := by
  rw [checkOk_perm]
  constructor
  · intro e
    rw [e] at p
    have q : ((zi o).map Int.toNat).Perm ((zi (List.range n)).map Int.toNat) := (p.map Int.toNat).symm
    have back : ∀ l : List Nat, (zi l).map Int.toNat = l := fun l => by
      unfold zi
      rw [List.map_map]
      exact (List.map_congr_left fun x _ => Int.toNat_natCast x).trans (List.map_id l)
    rwa [back, back] at q
  · intro q
    have p2 : zs.Perm (zi (List.range n)) := p.trans (q.map _)
    have s2 : (zi (List.range n)).Pairwise (· ≤ ·) := by
      unfold zi
      rw [List.pairwise_map]
      exact (List.pairwise_lt_range (n := n)).imp fun {a b} h => by omega
    exact List.Perm.eq_of_pairwise (fun a b _ _ h1 h2 => Int.le_antisymm h1 h2) s s2 p2

/-! ### the best -/
theorem all_eq (d : Day) : d.all = (ordIt d.pieces.length d.pieces.length).filter d.right := by
  unfold Day.all
  rw [ordIt_orders]
def asBest (d : Day) (o : Order) : Option Best := some ⟨d.cost o, 1, o⟩
theorem better_none (b : Option Best) : better none b = b := by cases b <;> rfl
theorem better_some (x y : Best) : better (some x) (some y) = if y.cost < x.cost then some y else if x.cost < y.cost then some x else some ⟨x.cost, x.many + y.many, x.order⟩ := rfl
theorem best_fold (d : Day) : ∀ (L : List Order) (c k : Nat) (o : Order), ∃ m k' o', (L.map (asBest d)).foldl better (some ⟨c, k, o⟩) = some ⟨m, k', o'⟩ ∧ m ≤ c ∧ (∀ x ∈ L, m ≤ d.cost x) ∧
    (m = c → k' = k + (L.filter fun x => decide (d.cost x = m)).length ∧ o' = o) ∧ (m < c → k' = (L.filter fun x => decide (d.cost x = m)).length ∧ (L.filter fun x => decide (d.cost x = m)).head? = some o') := by
  intro L
  induction L with
  | nil => intro c k o; exact ⟨c, k, o, rfl, Nat.le_refl _, (fun x hx => absurd hx List.not_mem_nil), (fun _ => ⟨rfl, rfl⟩), (fun h => absurd h (Nat.lt_irrefl _))⟩
  | cons x L ih =>
    intro c k o
    have st : ((x :: L).map (asBest d)).foldl better (some ⟨c, k, o⟩) = (L.map (asBest d)).foldl better (better (some ⟨c, k, o⟩) (some ⟨d.cost x, 1, x⟩)) := rfl
    rw [st, better_some]
    dsimp only
    by_cases h1 : d.cost x < c
    · rw [if_pos h1]
      obtain ⟨m, k', o', e, hm, hall, he, hl⟩ := ih (d.cost x) 1 x
      refine ⟨m, k', o', e, by omega, fun y hy => ?_, fun z => by omega, fun _ => ?_⟩
      · rcases List.mem_cons.mp hy with q | q
        · rw [q]; exact hm
        · exact hall y q
      · rw [List.filter_cons]
        by_cases q : d.cost x = m
        · obtain ⟨a, b⟩ := he q.symm
          rw [if_pos (by simp [q]), List.length_cons, a, b]
          exact ⟨by omega, rfl⟩
        · rw [if_neg (by simp [q])]
          exact hl (by omega)
    · rw [if_neg h1]
      by_cases h2 : c < d.cost x
      · rw [if_pos h2]
        obtain ⟨m, k', o', e, hm, hall, he, hl⟩ := ih c k o
        have q : d.cost x ≠ m := by omega
        refine ⟨m, k', o', e, hm, fun y hy => ?_, fun z => ?_, fun z => ?_⟩
        · rcases List.mem_cons.mp hy with q | q
          · rw [q]; omega
          · exact hall y q
        · rw [List.filter_cons, if_neg (by simp [q])]
          exact he z
        · rw [List.filter_cons, if_neg (by simp [q])]
          exact hl z
      · rw [if_neg h2]
        have hc : d.cost x = c := by omega
        obtain ⟨m, k', o', e, hm, hall, he, hl⟩ := ih c (k + 1) o
        refine ⟨m, k', o', e, hm, fun y hy => ?_, fun z => ?_, fun z => ?_⟩
        · rcases List.mem_cons.mp hy with q | q
          · rw [q]; omega
          · exact hall y q
        · obtain ⟨a, b⟩ := he z
          rw [List.filter_cons, if_pos (by simp [hc, z]), List.length_cons]
          exact ⟨by omega, b⟩
        · have q : d.cost x ≠ m := by omega
          rw [List.filter_cons, if_neg (by simp [q])]
          exact hl z
theorem best_none {d : Day} (h : d.all = []) : d.best = none := by
  unfold Day.best
  rw [h]
  rfl
/-- the least of the costs, and those orders that cost it, the first ahead -/
theorem best_some {d : Day} {m : Nat} {o : Order} {r : List Order} (hm : ∃ x ∈ d.all, d.cost x = m) (hl : ∀ x ∈ d.all, m ≤ d.cost x) (hf : (d.all.filter fun x => decide (d.cost x = m)) = o :: r) : d.best = some ⟨m, r.length + 1, o⟩ := by
  unfold Day.best
  show (d.all.map (asBest d)).foldl better none = _
  cases q : d.all with
  | nil => obtain ⟨x, hx, _⟩ := hm; rw [q] at hx; cases hx
  | cons y L =>
    rw [q] at hm hl hf
    have st : ((y :: L).map (asBest d)).foldl better none = (L.map (asBest d)).foldl better (some ⟨d.cost y, 1, y⟩) := rfl
    rw [st]
    obtain ⟨m', k', o', e, h1, h2, h3, h4⟩ := best_fold d L (d.cost y) 1 y
    have hmm : m' = m := by
      obtain ⟨x, hx, hc⟩ := hm
      have a : m' ≤ m := by
        rcases List.mem_cons.mp hx with z | z
        · rw [← hc, z]; exact h1
        · rw [← hc]; exact h2 x z
      have b : m ≤ m' := by
        by_cases c : m' = d.cost y
        · rw [c]; exact hl y (List.mem_cons_self ..)
        · obtain ⟨_, g⟩ := h4 (by omega)
          have gm : o' ∈ L.filter fun x => decide (d.cost x = m') := List.mem_of_mem_head? (by rw [g]; exact rfl)
          have gm' := List.mem_filter.mp gm
          have : d.cost o' = m' := of_decide_eq_true gm'.2
          rw [← this]
          exact hl o' (List.mem_cons_of_mem _ gm'.1)
      omega
    subst hmm
    rw [e]
    rw [List.filter_cons] at hf
    by_cases c : d.cost y = m'
    · rw [if_pos (by simp [c])] at hf
      injection hf with f1 f2
      obtain ⟨a, b⟩ := h3 c.symm
      rw [a, b, f1, ← f2]
      congr 2
      omega
    · rw [if_neg (by simp [c])] at hf
      obtain ⟨a, b⟩ := h4 (by omega)
      rw [hf] at a b
      have : o = o' := Option.some.inj b
      rw [a, this]
      rfl

/-! ### work -/
theorem total_sum : ∀ l : List Nat, total l = l.sum
  | [] => rfl
  | x :: l => by rw [total_cons, total_sum l, List.sum_cons]
theorem total_perm {l r : List Nat} (p : l.Perm r) : total l = total r := by rw [total_sum, total_sum]; exact p.sum_nat
theorem total_mul {α : Type} (c : Nat) (g : α → Nat) : ∀ l : List α, total (l.map fun x => c * g x) = c * total (l.map g)
  | [] => rfl
  | x :: l => by rw [List.map_cons, List.map_cons, total_cons, total_cons, total_mul c g l, Nat.mul_add]
theorem total_add {α : Type} (f g : α → Nat) : ∀ l : List α, total (l.map fun x => f x + g x) = total (l.map f) + total (l.map g)
  | [] => rfl
  | x :: l => by rw [List.map_cons, List.map_cons, List.map_cons, total_cons, total_cons, total_cons, total_add f g l]; omega
theorem total_zero {α : Type} : ∀ l : List α, total (l.map fun _ => 0) = 0
  | [] => rfl
  | x :: l => by rw [List.map_cons, total_cons, total_zero l]
theorem total_swap {α β : Type} (f : α → β → Nat) (m : List β) : ∀ l : List α, total (l.map fun x => total (m.map fun y => f x y)) = total (m.map fun y => total (l.map fun x => f x y))
  | [] => by
    show 0 = total (m.map fun _ => 0)
    rw [total_zero]
  | x :: l => by
    rw [List.map_cons, total_cons, total_swap f m l, ← total_add]
    congr 1
    refine List.map_congr_left fun y _ => ?_
    rw [List.map_cons, total_cons]
def rateOf (d : Day) (i : Nat) : Nat := match d.players[i]? with
  | some p => p.rate
  | none => 0
/-- what one piece costs -/
def pieceCost (d : Day) (p : Piece) : Nat := p.long * total (p.players.map (rateOf d))
/-- a piece as add_piece lets it be -/
structure PieceOk (n : Nat) (p : Piece) : Prop where
  lo : 1 ≤ p.long
  hi : p.long ≤ 600
  lt : ∀ x ∈ p.players, x < n
  nd : p.players.Nodup
theorem if_total (l : List Piece) (f : Piece → Bool) : total ((l.filter f).map fun p => p.long) = total (l.map fun p => if f p = true then p.long else 0) := by
  induction l with
  | nil => rfl
  | cons p l ih =>
    rw [List.filter_cons, List.map_cons, total_cons]
    by_cases h : f p = true
    · rw [if_pos h, if_pos h, List.map_cons, total_cons, ih]
    · rw [if_neg h, if_neg h, ih, Nat.zero_add]
theorem work_eq {d : Day} (h : ∀ p ∈ d.pieces, PieceOk d.players.length p) : d.work = total (d.pieces.map (pieceCost d)) := by
  unfold Day.work
  rw [zipIdx_map_to (g := fun i => total (d.pieces.map fun p => if p.players.contains i = true then rateOf d i * p.long else 0))]
  · rw [total_swap]
    congr 1
    refine List.map_congr_left fun p hp => ?_
    have ok := h p hp
    have e1 : total ((List.range d.players.length).map fun i => if p.players.contains i = true then rateOf d i * p.long else 0) = total (((List.range d.players.length).filter fun i => p.players.contains i).map fun i => p.long * rateOf d i) := by
      have key : ∀ l : List Nat, total (l.map fun i => if p.players.contains i = true then rateOf d i * p.long else 0) = total ((l.filter fun i => p.players.contains i).map fun i => p.long * rateOf d i) := by
        intro l
        induction l with
        | nil => rfl
        | cons x l ih =>
          rw [List.filter_cons, List.map_cons, total_cons, ih]
          by_cases c : p.players.contains x = true
          · rw [if_pos c, if_pos c, List.map_cons, total_cons, Nat.mul_comm]
          · rw [if_neg c, if_neg c, Nat.zero_add]
      exact key _
    rw [e1, total_mul]
    unfold pieceCost
    congr 1
    refine total_perm (List.Perm.map _ ?_)
    refine (List.perm_ext_iff_of_nodup (List.nodup_range.filter _) ok.nd).mpr fun x => ?_
    rw [List.mem_filter, List.mem_range]
    constructor
    · intro q
      simpa using q.2
    · intro q
      exact ⟨ok.lt x q, by simpa using q⟩
  · intro i x hx
    dsimp only
    rw [if_total, ← total_mul]
    congr 1
    refine List.map_congr_left fun p _ => ?_
    unfold rateOf
    rw [hx]
    by_cases c : p.players.contains i = true
    · rw [if_pos c, if_pos c]
    · rw [if_neg c, if_neg c, Nat.mul_zero]
end Reh
end RdMath2
section RdMath3
set_option autoImplicit false
/-! The plain law, part 3: what is handed in, call by call; what a day is like behind each call. -/
namespace Reh
open Uw03

/-! ### rising -/
theorem rising_cons {x : Nat} {l : List Nat} (h : rising (x :: l) = true) : (∀ y ∈ l, x < y) ∧ rising l = true := by
  induction l generalizing x with
  | nil => exact ⟨(fun y hy => absurd hy List.not_mem_nil), rfl⟩
  | cons z l ih =>
    have h' : (decide (x < z) && rising (z :: l)) = true := h
    rw [Bool.and_eq_true] at h'
    obtain ⟨a, b⟩ := h'
    have a' := of_decide_eq_true a
    obtain ⟨c, _⟩ := ih b
    refine ⟨fun y hy => ?_, b⟩
    rcases List.mem_cons.mp hy with e | m
    · rw [e]; exact a'
    · exact Nat.lt_trans a' (c y m)
theorem rising_nodup : ∀ {l : List Nat}, rising l = true → l.Nodup
  | [], _ => List.nodup_nil
  | x :: l, h => by
    obtain ⟨a, b⟩ := rising_cons h
    exact List.nodup_cons.mpr ⟨fun m => absurd (a x m) (Nat.lt_irrefl _), rising_nodup b⟩
/-- the neighbours' tests -/
def steps (l : List Nat) : List Bool := (List.range (l.length - 1)).map fun i => decide (l.getD i 0 < l.getD (i + 1) 0)
theorem steps_all : ∀ l : List Nat, (steps l).all id = rising l
  | [] => rfl
  | [_] => rfl
  | x :: y :: l => by
    show (steps (x :: y :: l)).all id = (decide (x < y) && rising (y :: l))
    rw [← steps_all (y :: l)]
    unfold steps
    rw [List.length_cons, List.length_cons, Nat.add_sub_cancel, Nat.add_sub_cancel, List.range_succ_eq_map, List.map_cons, List.map_map, List.all_cons]
    rfl

/-! ### one call as it is handed in: its number, its numbers, its list -/
inductive CallIs : Nat → List Nat → List Nat → Call → Prop
  | begins : CallIs 0 [] [] .begins
  | player (r a b : Nat) : CallIs 1 [r, a, b] [] (.player ⟨r, a, b⟩)
  | piece (n : Nat) (l : List Nat) : l.length ≤ 20 → CallIs 2 [n] l (.piece n l)
  | ahead (i j : Nat) : CallIs 3 [i, j] [] (.ahead i j)
  | best : CallIs 4 [] [] .best
  | check (o : List Nat) : o.length ≤ 20 → CallIs 5 [] o (.check o)
  | work : CallIs 6 [] [] .work
def hasRow (p : Nat) : Bool := p == 2 || p == 5
def nums (p : Nat) : Nat := match p with
  | 1 => 3
  | 2 => 1
  | 3 => 2
  | _ => 0
def rowIn (p : Nat) (row : List Nat) : List Nat := if hasRow p = true then row.length :: row else []
/-- a rest of what is handed in, and the calls in it -/
inductive Parsed : List Int → List Call → Prop
  | nil : Parsed [] []
  | cons {p : Nat} {xs row : List Nat} {c : Call} {t : List Int} {cs : List Call} : CallIs p xs row c → Parsed t cs → Parsed (zi ([p] ++ xs ++ rowIn p row) ++ t) (c :: cs)
/-- what is due for calls, from a day -/
def runOut : Day → List Call → List Int
  | _, [] => []
  | d, c :: cs => ((Uw03Neutral.out (step d c).2).length : Int) :: Uw03Neutral.out (step d c).2 ++ runOut (step d c).1 cs

theorem nat_of {z : Int} (h : Uw03Neutral.nat z = true) : ∃ n : Nat, z = (n : Int) := by
  unfold Uw03Neutral.nat at h
  rw [Bool.and_eq_true] at h
  exact ⟨z.toNat, by have := of_decide_eq_true h.1; omega⟩
theorem nats_of : ∀ {l : List Int}, l.all Uw03Neutral.nat = true → ∃ m : List Nat, l = zi m
  | [], _ => ⟨[], rfl⟩
  | z :: l, h => by
    rw [List.all_cons, Bool.and_eq_true] at h
    obtain ⟨n, rfl⟩ := nat_of h.1
    obtain ⟨m, rfl⟩ := nats_of h.2
    exact ⟨n :: m, rfl⟩
theorem zi_back (l : List Nat) : (zi l).map Int.toNat = l := by
  unfold zi
  rw [List.map_map]
  exact (List.map_congr_left fun x _ => Int.toNat_natCast x).trans (List.map_id l)
theorem callOf_zi {l : List Int} {c : Call} (h : Uw03Neutral.callOf l = some c) : ∃ m : List Nat, l = zi m ∧ Uw03Neutral.callIn m = some c := by
  unfold Uw03Neutral.callOf at h
  cases q : l.all Uw03Neutral.nat with
  | false => rw [q, if_pos rfl] at h; cases h
  | true =>
    rw [q, if_neg (fun z => Bool.noConfusion z)] at h
    obtain ⟨m, rfl⟩ := nats_of q
    rw [zi_back] at h
    exact ⟨m, rfl, h⟩
theorem listIn_of {l p : List Nat} (h : Uw03Neutral.listIn l = some p) : l = p.length :: p ∧ p.length ≤ 20 := by
  unfold Uw03Neutral.listIn at h
  cases l with
  | nil => cases h
  | cons n r =>
    dsimp only at h
    by_cases c : n ≤ 20 ∧ r.length = n
    · rw [if_pos c] at h
      cases h
      exact ⟨by rw [c.2], by omega⟩
    · rw [if_neg c] at h
      cases h
/-- a call's own numbers tell its form -/
theorem callIn_is {m : List Nat} {c : Call} (h : Uw03Neutral.callIn m = some c) : ∃ p xs row, CallIs p xs row c ∧ m = [p] ++ xs ++ rowIn p row := by
  unfold Uw03Neutral.callIn at h
  split at h
  · cases h; exact ⟨_, _, _, .begins, rfl⟩
  · cases h; exact ⟨_, _, _, .player _ _ _, rfl⟩
  · rename_i n l
    cases q : Uw03Neutral.listIn l with
    | none => rw [q] at h; cases h
    | some p =>
      rw [q] at h
      obtain ⟨e, hl⟩ := listIn_of q
      cases h
      exact ⟨2, [n], p, .piece n p hl, by rw [e]; rfl⟩
  · cases h; exact ⟨_, _, _, .ahead _ _, rfl⟩
  · cases h; exact ⟨_, _, _, .best, rfl⟩
  · rename_i l
    cases q : Uw03Neutral.listIn l with
    | none => rw [q] at h; cases h
    | some p =>
      rw [q] at h
      obtain ⟨e, hl⟩ := listIn_of q
      cases h
      exact ⟨5, [], p, .check p hl, by rw [e]; rfl⟩
  · cases h; exact ⟨_, _, _, .work, rfl⟩
  · cases h

/-- one call of PyFlat: what it takes, and that it is just its whole -/
theorem flat_call {l t : List Int} {c : List (List Int)} (h : PyFlat.call PyUw03.shape l = some (c, t)) : l = ((PyUw03.whole c).headD []) ++ t := by
  cases l with
  | nil => cases h
  | cons p r =>
    unfold PyFlat.call at h
    dsimp only at h
    cases hs : PyUw03.shape p with
    | none => rw [hs] at h; cases h
    | some nk =>
      obtain ⟨n, k⟩ := nk
      rw [hs] at h
      dsimp only at h
      by_cases hn : r.length < n
      · rw [if_pos hn] at h; cases h
      · rw [if_neg hn] at h
        have form : (p = 0 ∧ n = 0 ∧ k = 0) ∨ (p = 1 ∧ n = 3 ∧ k = 0) ∨ (p = 2 ∧ n = 1 ∧ k = 1) ∨ (p = 3 ∧ n = 2 ∧ k = 0) ∨ (p = 4 ∧ n = 0 ∧ k = 0) ∨ (p = 5 ∧ n = 0 ∧ k = 1) ∨ (p = 6 ∧ n = 0 ∧ k = 0) := by
          unfold PyUw03.shape at hs
          repeat' split at hs
          all_goals (first | (cases hs; done) | (cases hs; omega))
        have row1 : ∀ (s : List Int) xs u, PyFlat.rows 1 s = some (xs, u) → ∃ x, xs = [x] ∧ s = ((x.length : Int) :: x) ++ u := by
          intro s xs u e
          unfold PyFlat.rows at e
          cases s with
          | nil => cases e
          | cons m s =>
            unfold PyFlat.row at e
            dsimp only at e
            by_cases c : 0 ≤ m ∧ m.toNat ≤ s.length
            · rw [if_pos c] at e
              cases e
              refine ⟨_, rfl, ?_⟩
              rw [List.length_take, Nat.min_eq_left c.2]
              show m :: s = (m.toNat : Int) :: (s.take m.toNat ++ s.drop m.toNat)
              rw [List.take_append_drop, Int.toNat_of_nonneg c.1]
            · rw [if_neg c] at e
              cases e
        rcases form with ⟨rfl, rfl, rfl⟩ | ⟨rfl, rfl, rfl⟩ | ⟨rfl, rfl, rfl⟩ | ⟨rfl, rfl, rfl⟩ | ⟨rfl, rfl, rfl⟩ | ⟨rfl, rfl, rfl⟩ | ⟨rfl, rfl, rfl⟩
        · cases h; rfl
        · match r, hn with
          | x :: y :: z :: r, _ => cases h; rfl
          | [x, y], hn => exact absurd (show (2 : Nat) < 3 by decide) hn
          | [x], hn => exact absurd (show (1 : Nat) < 3 by decide) hn
          | [], hn => exact absurd (show (0 : Nat) < 3 by decide) hn
        · match r, hn with
          | x :: r, _ =>
            cases q : PyFlat.rows 1 (List.drop 1 (x :: r)) with
            | none => rw [q] at h; cases h
            | some v =>
              obtain ⟨xs, u⟩ := v
              rw [q] at h
              obtain ⟨y, rfl, e⟩ := row1 _ _ _ q
              cases h
              have e' : r = ((y.length : Int) :: y) ++ t := e
              rw [e']
              rfl
          | [], hn => exact absurd (show (0 : Nat) < 1 by decide) hn
        · match r, hn with
          | x :: y :: r, _ => cases h; rfl
          | [x], hn => exact absurd (show (1 : Nat) < 2 by decide) hn
          | [], hn => exact absurd (show (0 : Nat) < 2 by decide) hn
        · cases h; rfl
        · cases q : PyFlat.rows 1 (List.drop 0 r) with
          | none => rw [q] at h; cases h
          | some v =>
            obtain ⟨xs, u⟩ := v
            rw [q] at h
            obtain ⟨y, rfl, e⟩ := row1 _ _ _ q
            cases h
            have e' : r = ((y.length : Int) :: y) ++ t := e
            rw [e']
            rfl
        · cases h; rfl

def heads (raw : List (List (List Int))) : List (List Int) := (raw.map PyUw03.whole).map fun c => c.headD []
theorem parsed_of : ∀ (f : Nat) (l : List Int) (raw : List (List (List Int))), PyFlat.calls PyUw03.shape f l = some raw → (heads raw).all Uw03Neutral.asked1 = true →
    ∃ cs, Parsed l cs ∧ cs.length = raw.length ∧ (∀ d, PyFlat.told (PyFlat.played (fun s c => Uw03Neutral.step s (c.headD [])) d (raw.map PyUw03.whole)) = runOut d cs) ∧ (∀ d, (runOut d cs).length = Uw03Neutral.many d (heads raw) + cs.length) := by
  intro f
  induction f with
  | zero =>
    intro l raw h _
    cases l with
    | nil => cases h; exact ⟨[], .nil, rfl, fun _ => rfl, fun _ => rfl⟩
    | cons p r => cases h
  | succ f ih =>
    intro l raw h ha
    cases l with
    | nil => cases h; exact ⟨[], .nil, rfl, fun _ => rfl, fun _ => rfl⟩
    | cons p r =>
      unfold PyFlat.calls at h
      cases q : PyFlat.call PyUw03.shape (p :: r) with
      | none => rw [q] at h; cases h
      | some v =>
        obtain ⟨c, t⟩ := v
        rw [q] at h
        dsimp only at h
        cases q2 : PyFlat.calls PyUw03.shape f t with
        | none => rw [q2] at h; cases h
        | some cs' =>
          rw [q2] at h
          cases h
          have ha' : (Uw03Neutral.asked1 ((PyUw03.whole c).headD []) && (heads cs').all Uw03Neutral.asked1) = true := ha
          rw [Bool.and_eq_true] at ha'
          obtain ⟨cs, hp, hl, hr, hm⟩ := ih t cs' q2 ha'.2
          have hc : ∃ x, Uw03Neutral.callOf ((PyUw03.whole c).headD []) = some x := by
            have := ha'.1
            unfold Uw03Neutral.asked1 at this
            cases z : Uw03Neutral.callOf ((PyUw03.whole c).headD []) with
            | none => rw [z] at this; cases this
            | some x => exact ⟨x, rfl⟩
          obtain ⟨x, hx⟩ := hc
          obtain ⟨m, em, hin⟩ := callOf_zi hx
          obtain ⟨pn, xs, row, is, emm⟩ := callIn_is hin
          have fl := flat_call q
          have sx : ∀ d, Uw03Neutral.step d ((PyUw03.whole c).headD []) = ((step d x).1, Uw03Neutral.out (step d x).2) := fun d => by
            unfold Uw03Neutral.step
            rw [hx]
          refine ⟨x :: cs, ?_, ?_, fun d => ?_, fun d => ?_⟩
          · rw [fl, em, emm]
            exact .cons is hp
          · rw [List.length_cons, List.length_cons, hl]
          · show PyFlat.told ((Uw03Neutral.step d ((PyUw03.whole c).headD [])).2 :: PyFlat.played _ (Uw03Neutral.step d ((PyUw03.whole c).headD [])).1 (cs'.map PyUw03.whole)) = _
            rw [sx d]
            show (_ :: _) ++ PyFlat.told (PyFlat.played _ (step d x).1 (cs'.map PyUw03.whole)) = _
            rw [hr]
            rfl
          · show _ = (Uw03Neutral.step d ((PyUw03.whole c).headD [])).2.length + Uw03Neutral.many (Uw03Neutral.step d ((PyUw03.whole c).headD [])).1 (heads cs') + _
            rw [sx d]
            unfold runOut
            rw [List.length_append, List.length_cons, hm, List.length_cons]
            dsimp only
            omega

/-- all that the walk asks of what is handed in -/
theorem asked_is {l : List Int} (h : PyUw03.answers_asked l = true) : ∃ cs, Parsed l cs ∧ PyUw03.answers l = runOut init cs ∧ (runOut init cs).length ≤ 1000040 := by
  unfold PyUw03.answers_asked at h
  cases q : PyFlat.calls PyUw03.shape l.length l with
  | none => rw [q] at h; cases h
  | some raw =>
    rw [q] at h
    dsimp only at h
    rw [Bool.and_eq_true, Bool.and_eq_true, Bool.and_eq_true] at h
    obtain ⟨⟨⟨_, h40⟩, _⟩, has⟩ := h
    have has' : ((heads raw).all Uw03Neutral.asked1 && (decide (1 ≤ (heads raw).length) && (decide ((heads raw).length ≤ 40) && decide (Uw03Neutral.many Uw03Neutral.start (heads raw) ≤ 1000000)))) = true := has
    rw [Bool.and_eq_true, Bool.and_eq_true, Bool.and_eq_true] at has'
    obtain ⟨a1, _, a3, a4⟩ := has'
    obtain ⟨cs, hp, hl, hr, hm⟩ := parsed_of _ _ _ q a1
    refine ⟨cs, hp, ?_, ?_⟩
    · unfold PyUw03.answers PyUw03.calls
      rw [q]
      exact hr _
    · have b1 := of_decide_eq_true a4
      have b2 := of_decide_eq_true h40
      rw [hm]
      have b1' : Uw03Neutral.many init (heads raw) ≤ 1000000 := b1
      omega

/-! ### what a day is like -/
structure Good (d : Day) (m : Nat) : Prop where
  np : d.players.length ≤ 6
  nc : d.pieces.length ≤ 6
  pl : ∀ p ∈ d.players, p.rate ≤ 1000 ∧ p.till ≤ 3600
  pc : ∀ p ∈ d.pieces, PieceOk d.players.length p
  ah : ∀ x ∈ d.ahead, x.1 < d.pieces.length ∧ x.2 < d.pieces.length
  am : d.ahead.length ≤ m
theorem good_init (m : Nat) : Good init m := ⟨by decide, by decide, (fun p h => absurd h List.not_mem_nil), (fun p h => absurd h List.not_mem_nil), (fun p h => absurd h List.not_mem_nil), Nat.zero_le _⟩
theorem Good.mono {d : Day} {m n : Nat} (h : Good d m) (l : m ≤ n) : Good d n := ⟨h.np, h.nc, h.pl, h.pc, h.ah, Nat.le_trans h.am l⟩
theorem good_step {d : Day} {m : Nat} (h : Good d m) (c : Call) : Good (step d c).1 (m + 1) := by
  have h' := h.mono (Nat.le_succ m)
  cases c with
  | begins => exact good_init _
  | best => exact h'
  | work => exact h'
  | check o =>
    show Good (if _ then (d, _) else (d, _)).1 (m + 1)
    split <;> exact h'
  | player p =>
    show Good (if RATE < p.rate ∨ p.till < p.from_ ∨ DAY < p.till then (d, ok (-1)) else if d.pieces ≠ [] then (d, ok (-4)) else if PLAYERS ≤ d.players.length then (d, ok (-5)) else ({ d with players := d.players ++ [p] }, ok (d.players.length : Nat))).1 (m + 1)
    by_cases c1 : RATE < p.rate ∨ p.till < p.from_ ∨ DAY < p.till
    · rw [if_pos c1]; exact h'
    · rw [if_neg c1]
      by_cases c2 : d.pieces ≠ []
      · rw [if_pos c2]; exact h'
      · rw [if_neg c2]
        by_cases c3 : PLAYERS ≤ d.players.length
        · rw [if_pos c3]; exact h'
        · rw [if_neg c3]
          have e : d.pieces = [] := Classical.byContradiction c2
          unfold RATE DAY at c1
          unfold PLAYERS at c3
          refine ⟨?_, h.nc, fun q hq => ?_, fun q hq => ?_, h.ah, h'.am⟩
          · show (d.players ++ [p]).length ≤ 6
            rw [List.length_append, List.length_cons, List.length_nil]
            omega
          · rcases List.mem_append.mp hq with z | z
            · exact h.pl q z
            · have : q = p := by simpa using z
              rw [this]
              omega
          · have : q ∈ d.pieces := hq
            rw [e] at this
            cases this
  | piece n l =>
    show Good (if n < 1 ∨ LONG < n ∨ rising l = false ∨ (l.all fun a => decide (a < d.players.length)) = false then (d, ok (-1)) else if PIECES ≤ d.pieces.length then (d, ok (-5)) else ({ d with pieces := d.pieces ++ [⟨n, l⟩] }, ok (d.pieces.length : Nat))).1 (m + 1)
    by_cases c1 : n < 1 ∨ LONG < n ∨ rising l = false ∨ (l.all fun a => decide (a < d.players.length)) = false
    · rw [if_pos c1]; exact h'
    · rw [if_neg c1]
      by_cases c3 : PIECES ≤ d.pieces.length
      · rw [if_pos c3]; exact h'
      · rw [if_neg c3]
        have b1 : ¬ n < 1 := fun z => c1 (.inl z)
        have b2 : ¬ LONG < n := fun z => c1 (.inr (.inl z))
        have b3 : rising l = true := by
          cases q : rising l with
          | true => rfl
          | false => exact absurd (.inr (.inr (.inl q))) c1
        have b4 : (l.all fun a => decide (a < d.players.length)) = true := by
          cases q : l.all fun a => decide (a < d.players.length) with
          | true => rfl
          | false => exact absurd (.inr (.inr (.inr q))) c1
        unfold LONG at b2
        unfold PIECES at c3
        have len : (d.pieces ++ [(⟨n, l⟩ : Piece)]).length = d.pieces.length + 1 := by rw [List.length_append]; rfl
        refine ⟨h.np, ?_, h.pl, fun q hq => ?_, fun x hx => ?_, h'.am⟩
        · show (d.pieces ++ [(⟨n, l⟩ : Piece)]).length ≤ 6
          omega
        · rcases List.mem_append.mp hq with z | z
          · exact h.pc q z
          · have : q = ⟨n, l⟩ := by simpa using z
            rw [this]
            exact ⟨by show 1 ≤ n; omega, by show n ≤ 600; omega, fun x hx => of_decide_eq_true (List.all_eq_true.mp b4 x hx), rising_nodup b3⟩
        · have := h.ah x hx
          show x.1 < (d.pieces ++ [(⟨n, l⟩ : Piece)]).length ∧ x.2 < (d.pieces ++ [(⟨n, l⟩ : Piece)]).length
          omega
  | ahead i j =>
    show Good (if d.pieces.length ≤ i ∨ d.pieces.length ≤ j then (d, ok (-2)) else if i = j ∨ d.ahead.contains (i, j) = true then (d, ok (-3)) else ({ d with ahead := d.ahead ++ [(i, j)] }, ok (d.ahead.length + 1 : Nat))).1 (m + 1)
    by_cases c1 : d.pieces.length ≤ i ∨ d.pieces.length ≤ j
    · rw [if_pos c1]; exact h'
    · rw [if_neg c1]
      by_cases c2 : i = j ∨ d.ahead.contains (i, j) = true
      · rw [if_pos c2]; exact h'
      · rw [if_neg c2]
        refine ⟨h.np, h.nc, h.pl, h.pc, fun x hx => ?_, ?_⟩
        · rcases List.mem_append.mp hx with z | z
          · exact h.ah x z
          · have : x = (i, j) := by simpa using z
            rw [this]
            show i < d.pieces.length ∧ j < d.pieces.length
            omega
        · show (d.ahead ++ [(i, j)]).length ≤ m + 1
          have := h.am
          rw [List.length_append, List.length_cons, List.length_nil]
          omega
end Reh
end RdMath3
section RdBase
/-! The layer's own additions: what evaluates to something that is so; lists of represented things. -/
namespace Reh
open PySem PySem.Spec PyProof.Rows L2 Evl

/-! ### what evaluates to something that is so -/
def EvP (te : TE) (σ : L2.St) (H : Hp) (P : V → Hp → Prop) : Prop := ∀ H1, Ex H H1 → ∀ Q : VK, (∀ v H2, Ex H1 H2 → P v H2 → Q v H2) → te σ H1 Q
def EvAP (ta : TA) (σ : L2.St) (H : Hp) (P : List V → Hp → Prop) : Prop := ∀ H1, Ex H H1 → ∀ Q : List V → Hp → Prop, (∀ v H2, Ex H1 H2 → P v H2 → Q v H2) → ta σ H1 Q
def IsL (xs : List V) : V → Hp → Prop := fun v H => ∃ p, v = .ref p ∧ H p = some (.lst xs)
def SpP (sp : Sp) (vs : List V) (H : Hp) (P : V → Hp → Prop) : Prop := ∀ H1, Ex H H1 → ∀ Q : VK, (∀ v H2, Ex H1 H2 → P v H2 → Q v H2) → ∀ E : XK, sp vs H1 Q E
section
variable {K : PySem.W.Frag} {σ : L2.St} {H H' : Hp} {ta tb te : TE} {tr : TA} {x y z v : V} {r : R2} {P P1 P2 P' : V → Hp → Prop} {xs ys : List V} {D : Ends} {tz : TS}
theorem EvP.at (h : EvP te σ H P) {Q : VK} (k : ∀ v H2, Ex H H2 → P v H2 → Q v H2) : te σ H Q := h H (Ex.refl H) Q k
theorem EvP.mono (e : Ex H H') (h : EvP te σ H P) : EvP te σ H' P := fun H1 a Q q => h H1 (e.trans a) Q q
theorem EvP.imp (h : EvP te σ H P) (hi : ∀ v H1, Ex H H1 → P v H1 → P' v H1) : EvP te σ H P' := fun H1 e Q q => h H1 e Q fun v H2 e2 p => q v H2 e2 (hi v H2 (e.trans e2) p)
theorem ep_of (h : Ev te σ H v) (hp : ∀ H1, Ex H H1 → P v H1) : EvP te σ H P := fun H1 e Q q => h H1 e Q fun H2 e2 => q v H2 e2 (hp H2 (e.trans e2))
theorem ep_ofL (h : EvL te σ H xs) : EvP te σ H (IsL xs) := fun H1 e Q q => h H1 e Q fun p H2 _ e2 h2 => q _ H2 e2 ⟨p, rfl, h2⟩
theorem ep_ref {p : Addr} (h : Ev te σ H (.ref p)) (hp : H p = some (.lst xs)) : EvP te σ H (IsL xs) := ep_of h fun H1 e => ⟨p, rfl, e _ _ hp⟩
theorem ev_of (h : EvP te σ H P) (hp : ∀ w H1, Ex H H1 → P w H1 → w = v) : Ev te σ H v := fun H1 e Q q => h H1 e Q fun w H2 e2 p => (hp w H2 (e.trans e2) p) ▸ q H2 e2
theorem isL_mono (e : Ex H H') (h : IsL xs v H) : IsL xs v H' := let ⟨p, a, b⟩ := h; ⟨p, a, e _ _ b⟩
/-- one expression, then another that may lean on what the first gave -/
theorem ep_op (ha : EvP ta σ H P1) (hb : ∀ x H1, Ex H H1 → P1 x H1 → EvP tb σ H1 P2) (hr : ∀ x y H1 H2, Ex H H1 → Ex H1 H2 → P1 x H1 → P2 y H2 → ∀ Q : VK, (∀ v H3, Ex H2 H3 → P' v H3 → Q v H3) → r x y H2 Q) : EvP (tOp r ta tb) σ H P' :=
  fun H1 e Q q => ha H1 e _ fun x H2 e2 p1 => hb x H2 (e.trans e2) p1 H2 (Ex.refl _) _ fun y H3 e3 p2 => hr x y H2 H3 (e.trans e2) e3 p1 p2 Q fun v H4 e4 p => q v H4 ((e2.trans e3).trans e4) p
/-- list + list: a new one -/
theorem el_cat (ha : EvP ta σ H (IsL xs)) (hb : ∀ H1, Ex H H1 → EvP tb σ H1 (IsL ys)) (hz : xs.length + ys.length ≤ 100000) : EvL (tOp rCat ta tb) σ H (xs ++ ys) :=
  fun H1 e Q q => ha H1 e _ fun x H2 e2 ⟨p, ep, hp⟩ => hb H2 (e.trans e2) H2 (Ex.refl _) _ fun y H3 e3 ⟨p', ep', hp'⟩ =>
    ⟨p, p', xs, ys, ep, ep', e3 _ _ hp, hp', sz_of hz, fun n hn => q n _ (fresh_back (e2.trans e3) hn) ((e2.trans e3).trans (Ex.new hn)) upd_same⟩
theorem ev_fld {a C dx : Addr} {fs : List (Str × V)} {f : Str} (h : Ev ta σ H (.ref a)) (ho : H a = some (.ins C dx fs)) (hc : Cls K C) (hn : NoAttr K C f) (hl : fs.lookup f = some v) : Ev (tFld K ta f) σ H v :=
  fun H1 e Q q => h H1 e _ fun H2 e2 => ⟨a, C, dx, fs, v, rfl, e2 _ _ (e _ _ ho), hc, hn, hl, q H2 e2⟩
theorem ep_fld {f : Str} (h : EvP ta σ H P) (k : ∀ v H1, Ex H H1 → P v H1 → ∃ a C dx fs y, v = .ref a ∧ H1 a = some (.ins C dx fs) ∧ Cls K C ∧ NoAttr K C f ∧ fs.lookup f = some y ∧ P' y H1) : EvP (tFld K ta f) σ H P' :=
  fun H1 e Q q => h H1 e _ fun v H2 e2 p => let ⟨a, C, dx, fs, y, h1, h2, h3, h4, h5, h6⟩ := k v H2 (e.trans e2) p; ⟨a, C, dx, fs, y, h1, h2, h3, h4, h5, q y H2 e2 h6⟩
theorem ea_p {vs : List V} (h : EvA tr σ H vs) : EvAP tr σ H (fun ws _ => ws = vs) := fun H1 e Q q => h H1 e Q fun H2 e2 => q _ H2 e2 rfl
theorem eap_nil : EvAP tNil σ H (fun ws _ => ws = []) := fun H1 _ Q q => q [] H1 (Ex.refl H1) rfl
theorem eap_cons {PA PB : List V → Hp → Prop} (h : EvP te σ H P) (hr : ∀ v H1, Ex H H1 → P v H1 → EvAP tr σ H1 PA) (k : ∀ v vs H1 H2, Ex H H1 → Ex H1 H2 → P v H1 → PA vs H2 → PB (v :: vs) H2) : EvAP (tCons te tr) σ H PB :=
  fun H1 e Q q => h H1 e _ fun v H2 e2 p => hr v H2 (e.trans e2) p H2 (Ex.refl _) _ fun vs H3 e3 pa => q (v :: vs) H3 (e2.trans e3) (k v vs H2 H3 (e.trans e2) e3 p pa)
theorem eap_one (h : EvP te σ H P) : EvAP (tCons te tNil) σ H (fun ws H1 => ∃ v, ws = [v] ∧ P v H1) :=
  fun H1 e Q q => h H1 e _ fun v H2 e2 p => q [v] H2 e2 ⟨v, rfl, p⟩
theorem ep_call {sp : Sp} {dvs vs : List V} {E : XK} (h : EvA tr σ H vs) (hs : SpP sp (vs ++ dvs) H P) : EvP (tCall sp dvs E tr) σ H P := fun H1 e Q q => h H1 e _ fun H2 e2 => hs H2 (e.trans e2) Q (fun v H3 e3 p => q v H3 (e2.trans e3) p) E
theorem ep_callP {sp : Sp} {dvs : List V} {E : XK} {PA : List V → Hp → Prop} (h : EvAP tr σ H PA) (hs : ∀ vs H1, Ex H H1 → PA vs H1 → SpP sp (vs ++ dvs) H1 P) : EvP (tCall sp dvs E tr) σ H P :=
  fun H1 e Q q => h H1 e _ fun vs H2 e2 pa => hs vs H2 (e.trans e2) pa H2 (Ex.refl _) Q (fun v H3 e3 p => q v H3 (e2.trans e3) p) E
theorem ep_meth {C a dx : Addr} {fs : List (Str × V)} {m : Str} {sp : Sp} {dvs vs : List V} {E : XK} (h : Ev ta σ H (.ref a)) (ho : H a = some (.ins C dx fs)) (hl : fs.lookup m = none) (hv : EvA tr σ H vs) (hs : SpP sp (.ref a :: (vs ++ dvs)) H P) : EvP (tMeth C m sp dvs E ta tr) σ H P :=
  fun H1 e Q q => h H1 e _ fun H2 e2 => ⟨a, dx, fs, rfl, e2 _ _ (e _ _ ho), hl, hv H2 (e.trans e2) _ fun H3 e3 => hs H3 ((e.trans e2).trans e3) Q (fun v H4 e4 p => q v H4 ((e2.trans e3).trans e4) p) E⟩
theorem ep_methP {C a dx : Addr} {fs : List (Str × V)} {m : Str} {sp : Sp} {dvs : List V} {E : XK} {PA : List V → Hp → Prop} (h : Ev ta σ H (.ref a)) (ho : H a = some (.ins C dx fs)) (hl : fs.lookup m = none) (hv : EvAP tr σ H PA) (hs : ∀ vs H1, Ex H H1 → PA vs H1 → SpP sp (.ref a :: (vs ++ dvs)) H1 P) : EvP (tMeth C m sp dvs E ta tr) σ H P :=
  fun H1 e Q q => h H1 e _ fun H2 e2 => ⟨a, dx, fs, rfl, e2 _ _ (e _ _ ho), hl, hv H2 (e.trans e2) _ fun vs H3 e3 pa => hs vs H3 ((e.trans e2).trans e3) pa H3 (Ex.refl _) Q (fun v H4 e4 p => q v H4 ((e2.trans e3).trans e4) p) E⟩
/-- a new instance whose __init__ lays its arguments down -/
def spFields (C : Addr) (fs : List V → List (Str × V)) (n : Nat) : Sp := fun vs H Q _ => ∃ (a dx : Addr) (ws : List V), vs = .ref a :: ws ∧ ws.length = n ∧ H a = some (.ins C dx []) ∧ Q .non (upd H a (.ins C dx (fs ws)))
theorem ex_made {C x dx : Addr} {fs : List (Str × V)} (nx : H x = none) (nd : H dx = none) : Ex H (upd (upd (upd H dx (.own x)) x (.ins C dx [])) x (.ins C dx fs)) := fun b o h => by
  rw [upd_upd, upd_ne (ne_of_none h nx), upd_ne (ne_of_none h nd)]
  exact h
theorem ep_make {C : Addr} {fs : List V → List (Str × V)} {n : Nat} {E : XK} {PA : List V → Hp → Prop} (h : EvAP tr σ H PA) (hn : ∀ vs H1, PA vs H1 → vs.length = n) (hp : ∀ vs H1 H2 a dx, Ex H H1 → Ex H1 H2 → PA vs H1 → H2 a = some (.ins C dx (fs vs)) → P (.ref a) H2) :
    EvP (tMake C (spFields C fs n) [] E tr) σ H P :=
  fun H1 e Q q => h H1 e _ fun vs H2 e2 pa x dx nx nd _ => by
    rw [List.append_nil]
    exact ⟨x, dx, vs, rfl, hn vs H2 pa, upd_same, rfl, q _ _ (e2.trans (ex_made nx nd)) (hp vs H2 _ x dx (e.trans e2) (ex_made nx nd) pa upd_same)⟩
theorem el_tup {vs : List V} (h : EvA tr σ H vs) (hl : vs.length ≤ 100000) : EvP (tTup tr) σ H (fun v H1 => ∃ p, v = .ref p ∧ H1 p = some (.tup vs)) :=
  fun H1 e Q q => (eu_tup h hl) H1 e Q fun p H2 _ e2 h2 => q _ H2 e2 ⟨p, rfl, h2⟩

/-! ### statements -/
theorem q_asgP {i : Nat} (h : EvP te σ H P) (k : ∀ v H1, Ex H H1 → P v H1 → tz D (σ.set i (some v)) H1) : tSeq (tAsg te (gName i)) tz D σ H := h H (Ex.refl H) _ fun v H1 e p => k v H1 e p
theorem s_asgP {i : Nat} (h : EvP te σ H P) (k : ∀ v H1, Ex H H1 → P v H1 → D.nx (σ.set i (some v)) H1) : tAsg te (gName i) D σ H := h H (Ex.refl H) _ fun v H1 e p => k v H1 e p
theorem s_retP (h : EvP te σ H P) (k : ∀ v H1, Ex H H1 → P v H1 → D.rt v H1) : tRet te D σ H := h H (Ex.refl H) _ k
/-- xs.append(e), e something that is so -/
theorem s_appP {l : Addr} {acc : List V} (hl : H l = some (.lst acc)) (ha : Ev ta σ H (.ref l)) (h : EvP te σ H P) (hz : acc.length < 100000) (k : ∀ v H1, Ex H H1 → P v H1 → D.nx σ (upd H1 l (.lst (acc ++ [v])))) :
    tDrop (tBM K "list" rAppend ta (tCons te tNil)) D σ H :=
  ha H (Ex.refl H) _ fun H1 e1 => ⟨.inl ⟨rfl, acc, sq_of (e1 _ _ hl)⟩, h H1 e1 _ fun v H2 e2 p => ⟨l, acc, v, rfl, rfl, e2 _ _ (e1 _ _ hl), sz_lt hz, k v H2 (e1.trans e2) p⟩⟩
/-- xs.extend(e), e a list -/
theorem s_ext {l : Addr} {acc ys : List V} (hl : H l = some (.lst acc)) (ha : Ev ta σ H (.ref l)) (h : EvP te σ H (IsL ys)) (hz : acc.length + ys.length ≤ sizeLine) (k : ∀ H1, Ex H H1 → D.nx σ (upd H1 l (.lst (acc ++ ys)))) :
    tDrop (tBM K "list" rExtend ta (tCons te tNil)) D σ H :=
  ha H (Ex.refl H) _ fun H1 e1 => ⟨.inl ⟨rfl, acc, sq_of (e1 _ _ hl)⟩, h H1 e1 _ fun v H2 e2 ⟨b, ev, hb⟩ => ⟨l, b, acc, ys, rfl, by rw [ev], e2 _ _ (e1 _ _ hl), hb, hz, k H2 (e1.trans e2)⟩⟩
end

/-! ### == [] and != [] of any list -/
def rEqE (K : PySem.W.Frag) : R2 := fun x y H Q => ∃ a b xs, x = .ref a ∧ y = .ref b ∧ SqL K H a xs ∧ SqL K H b [] ∧ Q (.bl xs.isEmpty) H
def rNeE (K : PySem.W.Frag) : R2 := fun x y H Q => ∃ a b xs, x = .ref a ∧ y = .ref b ∧ SqL K H a xs ∧ SqL K H b [] ∧ Q (.bl (!xs.isEmpty)) H
section
variable {X : Cx}
theorem op_eqE (hu : X.A.units < cLine) : OpR X (compareOp .Eq) (rEqE X.K) := by
  intro pins s σ H x y v u Q I rx ry h
  obtain ⟨a, b, xs, rfl, rfl, ha, hb, q⟩ := h
  cases rx
  cases ry
  obtain ⟨its, rv, p, _⟩ := I.list ha
  obtain ⟨its2, rv2, p2, _⟩ := I.list hb
  cases rv2
  have key : SeqAt.RcAt X.A s (.ref a) (.ref b) xs.isEmpty := by
    cases rv with
    | nil => exact SeqAt.RcAt.lists (e := fun _ => true) p.isList p2.isList rfl hu fun j h1 _ => absurd h1 (Nat.not_lt_zero j)
    | cons r rr => exact SeqAt.RcAt.lists_lengths p.isList p2.isList (by simp) hu
  exact key X.prog X.w _ _ ⟨.bl _, H, I, rfl, q⟩
theorem op_neE (hu : X.A.units < cLine) : OpR X (compareOp .NotEq) (rNeE X.K) := by
  intro pins s σ H x y v u Q I rx ry h
  obtain ⟨a, b, xs, rfl, rfl, ha, hb, q⟩ := h
  cases rx
  cases ry
  obtain ⟨its, rv, p, _⟩ := I.list ha
  obtain ⟨its2, rv2, p2, _⟩ := I.list hb
  cases rv2
  have key : SeqAt.RcNeAt X.A s (.ref a) (.ref b) (!xs.isEmpty) := by
    cases rv with
    | nil => exact SeqAt.RcNeAt.lists (e := fun _ => true) p.isList p2.isList rfl hu fun j h1 _ => absurd h1 (Nat.not_lt_zero j)
    | cons r rr => exact SeqAt.RcNeAt.lists_lengths p.isList p2.isList (by simp) hu
  exact key X.prog X.w _ _ ⟨.bl _, H, I, rfl, q⟩
end

/-! ### lists of represented things -/
def vi (l : List Nat) : List V := l.map fun n : Nat => V.int (n : Int)
theorem vi_zi (l : List Nat) : vi l = (zi l).map V.int := by
  unfold vi zi
  rw [List.map_map]
  rfl
theorem vi_len (l : List Nat) : (vi l).length = l.length := List.length_map ..
theorem vi_get {l : List Nat} {i n : Nat} (h : l[i]? = some n) : (vi l)[i]? = some (.int (n : Int)) := by
  unfold vi
  rw [List.getElem?_map, h]
  rfl
theorem vi_of {l : List Nat} {i : Nat} {v : V} (h : (vi l)[i]? = some v) : ∃ n, l[i]? = some n ∧ v = .int (n : Int) := by
  unfold vi at h
  rw [List.getElem?_map] at h
  cases q : l[i]? with
  | none => rw [q] at h; cases h
  | some n => rw [q] at h; exact ⟨n, rfl, (Option.some.inj h).symm⟩
theorem vi_app (l r : List Nat) : vi (l ++ r) = vi l ++ vi r := List.map_append ..
theorem vi_flat : ∀ l : List Nat, (vi l).all flatV = true
  | [] => rfl
  | _ :: l => vi_flat l
theorem inV_vi (a : Nat) : ∀ l : List Nat, inV (.int (a : Int)) (vi l) = l.contains a
  | [] => rfl
  | x :: l => by
    show (eqV (.int (x : Int)) (.int (a : Int)) || inV (.int (a : Int)) (vi l)) = (a == x || l.contains a)
    rw [inV_vi a l]
    congr 1
    show ((x : Int) == (a : Int)) = (a == x)
    by_cases h : a = x
    · subst h; simp
    · have h1 : ((x : Int) == (a : Int)) = false := beq_eq_false_iff_ne.mpr (by omega)
      rw [h1, beq_eq_false_iff_ne.mpr h]
/-- at p a list of things that stand for xs -/
def RepL {α : Type} (R : α → V → Hp → Prop) (H : Hp) (p : Addr) (xs : List α) : Prop :=
  ∃ vs, H p = some (.lst vs) ∧ vs.length = xs.length ∧ ∀ (i : Nat) x v, xs[i]? = some x → vs[i]? = some v → R x v H
def Mono {α : Type} (R : α → V → Hp → Prop) : Prop := ∀ x v H H', Ex H H' → R x v H → R x v H'
/-- R does not lean on the list at p -/
def Off {α : Type} (R : α → V → Hp → Prop) (p : Addr) : Prop := ∀ x v H acc o, H p = some (.lst acc) → R x v H → R x v (upd H p o)
section
variable {α : Type} {R R' : α → V → Hp → Prop} {H H' : Hp} {p : Addr} {xs : List α}
theorem RepL.mono (m : Mono R) (e : Ex H H') (h : RepL R H p xs) : RepL R H' p xs := by
  obtain ⟨vs, h1, h2, h3⟩ := h
  exact ⟨vs, e _ _ h1, h2, fun i x v a b => m _ _ _ _ e (h3 i x v a b)⟩
theorem RepL.imp (hi : ∀ x v, R x v H → R' x v H) (h : RepL R H p xs) : RepL R' H p xs := by
  obtain ⟨vs, h1, h2, h3⟩ := h
  exact ⟨vs, h1, h2, fun i x v a b => hi _ _ (h3 i x v a b)⟩
theorem RepL.sq {K : PySem.W.Frag} (h : RepL R H p xs) : ∃ vs, SqL K H p vs ∧ vs.length = xs.length ∧ ∀ (i : Nat) x v, xs[i]? = some x → vs[i]? = some v → R x v H := by
  obtain ⟨vs, h1, h2⟩ := h
  exact ⟨vs, sq_of h1, h2⟩
theorem rep_nil (h : H p = some (.lst [])) : RepL R H p [] := ⟨[], h, rfl, fun i x v a _ => by simp at a⟩
theorem rep_upd_nil : RepL R (upd H p (.lst [])) p [] := rep_nil upd_same
/-- one thing more at its end -/
theorem RepL.snoc (off : Off R p) (h : RepL R H p xs) {acc : List V} (ha : H p = some (.lst acc)) {x : α} {v : V} (hx : R x v H) : RepL R (upd H p (.lst (acc ++ [v]))) p (xs ++ [x]) := by
  obtain ⟨vs, h1, h2, h3⟩ := h
  have e : vs = acc := by
    rw [h1] at ha
    cases ha
    rfl
  subst e
  refine ⟨_, upd_same, by rw [List.length_append, List.length_append, h2]; rfl, fun i y w hy hw => ?_⟩
  by_cases c : i < xs.length
  · rw [List.getElem?_append_left c] at hy
    rw [List.getElem?_append_left (by omega)] at hw
    exact off _ _ _ _ _ h1 (h3 i y w hy hw)
  · rw [List.getElem?_append_right (by omega)] at hy
    rw [List.getElem?_append_right (by omega)] at hw
    rw [h2] at hw
    cases q : i - xs.length with
    | zero =>
      rw [q] at hy hw
      cases hy
      cases hw
      exact off _ _ _ _ _ h1 hx
    | succ j =>
      rw [q] at hy
      simp at hy
theorem RepL.get (h : RepL R H p xs) {acc : List V} (ha : H p = some (.lst acc)) {i : Nat} {x : α} (hx : xs[i]? = some x) : ∃ v, acc[i]? = some v ∧ R x v H := by
  obtain ⟨vs, h1, h2, h3⟩ := h
  have e : vs = acc := by
    rw [h1] at ha
    cases ha
    rfl
  subst e
  have hl : i < xs.length := (List.getElem?_eq_some_iff.mp hx).1
  have hv : vs[i]? = some vs[i] := List.getElem?_eq_getElem (by omega)
  exact ⟨_, hv, h3 i x _ hx hv⟩
theorem RepL.get' (h : RepL R H p xs) {acc : List V} (ha : H p = some (.lst acc)) {i : Nat} {v : V} (hv : acc[i]? = some v) : ∃ x, xs[i]? = some x ∧ R x v H := by
  obtain ⟨vs, h1, h2, h3⟩ := h
  have e : vs = acc := by
    rw [h1] at ha
    cases ha
    rfl
  subst e
  have hl : i < vs.length := (List.getElem?_eq_some_iff.mp hv).1
  have hx : xs[i]? = some xs[i] := List.getElem?_eq_getElem (by omega)
  exact ⟨_, hx, h3 i _ v hx hv⟩
end

/-! ### comprehensions whose items stand for something -/
def givenD {α : Type} (n : Nat) (f : Nat → Bool) (d : Nat → α) : List α := ((List.range n).filter f).map d
theorem givenD_yes {α : Type} {n : Nat} {f : Nat → Bool} {d : Nat → α} (h : f n = true) : givenD (n + 1) f d = givenD n f d ++ [d n] := by
  unfold givenD
  rw [List.range_succ, List.filter_append, List.map_append, List.filter_cons, if_pos h] <;> rfl
theorem givenD_no {α : Type} {n : Nat} {f : Nat → Bool} {d : Nat → α} (h : f n = false) : givenD (n + 1) f d = givenD n f d := by
  unfold givenD
  rw [List.range_succ, List.filter_append, List.map_append, List.filter_cons, if_neg (by rw [h]; decide)]
  show _ ++ [] = _
  rw [List.append_nil]
theorem givenD_len {α : Type} (n : Nat) (f : Nat → Bool) (d : Nat → α) : (givenD n f d).length ≤ n := by
  unfold givenD
  rw [List.length_map]
  have h := List.length_filter_le f (List.range n)
  rw [List.length_range] at h
  exact h
theorem givenD_all {α : Type} (n : Nat) (d : Nat → α) : givenD n (fun _ => true) d = (List.range n).map d := by
  unfold givenD
  rw [List.filter_eq_self.mpr fun _ _ => rfl]
def CwP {α : Type} (R : α → V → Hp → Prop) (H : Hp) (f : Nat → Bool) (d : Nat → α) (Dl : Addr) (i : Nat) (H' : Hp) : Prop := H Dl = none ∧ Ex H H' ∧ RepL R H' Dl (givenD i f d)
theorem cwp_turn {α : Type} {R : α → V → Hp → Prop} {H H1 H' : Hp} {f : Nat → Bool} {d : Nat → α} {Dl : Addr} {i : Nat} {σ2 : L2.St} {t : TT} {te : TE} (m : Mono R) (off : Off R Dl) (p : CwP R H f d Dl i H1) (e1 : Ex H1 H') (hi : i < 100000)
    (ht : EvT t σ2 H' (f i)) (he : f i = true → EvP te σ2 H' (R (d i))) :
    t σ2 H' fun b H3 => if b = true then te σ2 H3 fun y H4 => ∃ acc, H4 Dl = some (.lst acc) ∧ acc.length < sizeLine ∧ CwP R H f d Dl (i + 1) (upd H4 Dl (.lst (acc ++ [y]))) else CwP R H f d Dl (i + 1) H3 := by
  obtain ⟨p1, p2, p3⟩ := p
  refine ht H' (Ex.refl _) _ fun H3 e3 => ?_
  cases hf : f i with
  | true =>
    show te σ2 H3 fun y H4 => ∃ acc, H4 Dl = some (.lst acc) ∧ acc.length < sizeLine ∧ CwP R H f d Dl (i + 1) (upd H4 Dl (.lst (acc ++ [y])))
    refine he hf H3 e3 _ fun v H4 e4 hv => ?_
    have e5 : Ex H1 H4 := (e1.trans e3).trans e4
    obtain ⟨acc, ha, hl, _⟩ := id (p3.mono m e5)
    refine ⟨acc, ha, sz_lt (by have := givenD_len i f d; omega), p1, Ex.mut (p2.trans e5) p1, ?_⟩
    rw [givenD_yes hf]
    exact (p3.mono m e5).snoc off ha hv
  | false =>
    show CwP R H f d Dl (i + 1) H3
    refine ⟨p1, p2.trans (e1.trans e3), ?_⟩
    rw [givenD_no hf]
    exact p3.mono m (e1.trans e3)
end Reh
end RdBase
section RdText
/-! The text by places, what the top has written, how a day lies on the heap, the smallest defs. -/
namespace Reh
open PySem PySem.Spec PyProof.Rows L2 Evl

/-! ### the text by places -/
def topS (i : Nat) : Stmt := PySem.Challenge.pw_rehearsalday_s01_answers.main.body.getD i (.Pass ⟨0, 0, 0, 0⟩)
abbrev xPlayer : Stmt := inClass (topS 4) 0
abbrev xPiece : Stmt := inClass (topS 5) 0
abbrev xStay : Stmt := inClass (topS 6) 0
abbrev xThere : Stmt := inClass (topS 6) 1
abbrev xNumbers : Stmt := inClass (topS 6) 2
abbrev xStayIn : Stmt := topS 7
abbrev xStaysIn : Stmt := topS 8
abbrev xCostOf : Stmt := topS 9
abbrev xPairBehind : Stmt := topS 10
abbrev xStayWrong : Stmt := topS 11
abbrev xWrongWith : Stmt := topS 12
abbrev xAllOrders : Stmt := topS 13
abbrev xAsList : Stmt := topS 27
abbrev xStaysTold : Stmt := topS 28
abbrev xDay (i : Nat) : Stmt := inClass (topS 29) i
abbrev xRowAt : Stmt := topS 30
abbrev xAnswers : Stmt := topS 31

/-! ### what may be called -/
section
variable (P : Program) (w : World) (K : PySem.W.Frag) (mg : Str → Option Value) (base : Heap)
/-- a module's name that holds v -/
def Gv (x : Str) (v : V) : Prop := ∃ u, mg x = some u ∧ RelV v u
/-- a def of the module | a method | a class -/
def Cal (x : Str) (k : Nat) (ps : List Str) (sp : Sp) : Prop := ∃ f fd, mg x = some (.ref f) ∧ FnOk P w K mg base CX0 k f fd ps sp ∧ PySem.W.keepIn K (.ref f) = true ∧ Binds K fd ps []
def CalM (C : Addr) (m : Str) (k : Nat) (ps : List Str) (sp : Sp) : Prop := ∃ f fd, Meth K C m f ∧ FnOk P w K mg base CX0 k f fd ps sp ∧ Binds K fd ps []
def CalC (x : Str) (C : Addr) (k : Nat) (ps : List Str) (sp : Sp) : Prop := mg x = some (.ref C) ∧ ∃ f fd, Mk K C f ∧ FnOk P w K mg base CX0 k f fd ps sp ∧ Binds K fd ps []
end
section
variable {X : Cx} {pos p apos : Pos} {x m : Str} {e o : Expr} {es : List Expr} {t : TA} {ta : TE} {k : Nat} {ps : List Str} {sp : Sp} {C : Addr} {v : V}
theorem pe_gv (h : Gv X.mg x v) (hg : Gl X x := by rfl) (hd : (x == ("__debug__" : Str)) = false := by decide) : PE X (.Name x pos) (tC v) := by
  obtain ⟨u, h1, h2⟩ := h
  exact pe_glob hg h1 h2 hd
theorem pe_cal (h : Cal X.prog X.w X.K X.mg X.base x k ps sp) (hr : Room k X.A) (ha : PA X (e :: es) t) (hg : Gl X x := by rfl)
    (hdb : (x == ("__debug__" : Str)) = false := by decide) (he : starEach (e :: es) X.env = (false, eval e X.env) :: starEach es X.env := by rfl) (hpl : (backTo pos (starEach es X.env)).any (·.1) = false := by rfl) :
    PE X (.Call (.Name x p) (e :: es) [] pos) (tCall sp [] E0 t) := by
  obtain ⟨f, fd, h1, h2, h3, h4⟩ := h
  exact pe_call h2 hr hg h1 h3 h4 .nil pass0 ha hdb he hpl
theorem pe_calm {pl : Sem Bool} (he : PE X o ta) (c : Cls X.K C) (h : CalM X.prog X.w X.K X.mg X.base C m k ps sp) (hr : Room k X.A) (ha : PA X (e :: es) t)
    (hst : starEach (e :: es) X.env = (false, eval e X.env) :: starEach es X.env := by rfl) (hpl : (backTo pos (starEach es X.env)).any (·.1) = false := by rfl)
    (ht : eval (.Call (.Attribute o m apos) (e :: es) [] pos) X.env = (do
      let ov ← eval o X.env
      standAt apos.atName
      let (f, first) ← holding [ov] (getMethod ov m pl)
      callWith pos f first (backTo pos (starEach (e :: es) X.env)) (backToKw pos (keywordEach [] X.env))) := by rfl) :
    PE X (.Call (.Attribute o m apos) (e :: es) [] pos) (tMeth C m sp [] E0 ta t) := by
  obtain ⟨f, fd, h1, h2, h3⟩ := h
  exact pe_meth (pl := pl) he c h1 h2 hr h3 .nil pass0 ha hst hpl ht
theorem pe_calm0 {pl : Sem Bool} (he : PE X o ta) (c : Cls X.K C) (h : CalM X.prog X.w X.K X.mg X.base C m k ps sp) (hr : Room k X.A)
    (ht : eval (.Call (.Attribute o m apos) [] [] pos) X.env = (do
      let ov ← eval o X.env
      standAt apos.atName
      let (f, first) ← holding [ov] (getMethod ov m pl)
      callWith pos f first (backTo pos (starEach [] X.env)) (backToKw pos (keywordEach [] X.env))) := by rfl) :
    PE X (.Call (.Attribute o m apos) [] [] pos) (tMeth C m sp [] E0 ta tNil) := by
  obtain ⟨f, fd, h1, h2, h3⟩ := h
  exact pe_meth0 (pl := pl) he c h1 h2 hr h3 .nil pass0 ht
theorem pe_calc (h : CalC X.prog X.w X.K X.mg X.base x C k ps sp) (hr : Room (k + 1) X.A) (ha : PA X (e :: es) t) (hg : Gl X x := by rfl)
    (hdb : (x == ("__debug__" : Str)) = false := by decide) (he : starEach (e :: es) X.env = (false, eval e X.env) :: starEach es X.env := by rfl) (hpl : (backTo pos (starEach es X.env)).any (·.1) = false := by rfl) :
    PE X (.Call (.Name x p) (e :: es) [] pos) (tMake C sp [] E0 t) := by
  obtain ⟨h1, f, fd, h2, h3, h4⟩ := h
  exact pe_make h2 h3 hr hg h1 h4 .nil pass0 ha hdb he hpl
theorem pe_calc0 (h : CalC X.prog X.w X.K X.mg X.base x C k ps sp) (hr : Room (k + 1) X.A) (hg : Gl X x := by rfl)
    (hdb : (x == ("__debug__" : Str)) = false := by decide) : PE X (.Call (.Name x p) [] [] pos) (tMake C sp [] E0 tNil) := by
  obtain ⟨h1, f, fd, h2, h3, h4⟩ := h
  exact pe_make0 h2 h3 hr hg h1 h4 .nil pass0 hdb
end

/-! ### what the top has written -/
structure Txt (K : PySem.W.Frag) (mg : Str → Option Value) (cP cC cS cD : Addr) : Prop where
  clP : Cls K cP
  pCost : NoAttr K cP "cost"
  pSince : NoAttr K cP "since"
  pTill : NoAttr K cP "till"
  clC : Cls K cC
  cMin : NoAttr K cC "minutes"
  cPl : NoAttr K cC "players"
  clS : Cls K cS
  sCo : NoAttr K cS "comes"
  sGo : NoAttr K cS "goes"
  sBu : NoAttr K cS "busy"
  clD : Cls K cD
  dPl : NoAttr K cD "players"
  dPc : NoAttr K cD "pieces"
  dPr : NoAttr K cD "pairs"
  zLen : mg "len" = none
  zSum : mg "sum" = none
  zZip : mg "zip" = none
  zRange : mg "range" = none
  zDict : mg "dict" = none
  zEnum : mg "enumerate" = none
  zAny : mg "any" = none
  zAll : mg "all" = none
  zMin : mg "min" = none
  zSorted : mg "sorted" = none
  zList : mg "list" = none
  vBehind : Gv mg "BEHIND" (.int 1)
  vEarly : Gv mg "TOO_EARLY" (.int 2)
  vLate : Gv mg "TOO_LATE" (.int 3)
  vBad : Gv mg "BAD" (.int (-1))
  vNoPiece : Gv mg "NO_PIECE" (.int (-2))
  vTold : Gv mg "TOLD_ALREADY" (.int (-3))
  vPieces : Gv mg "PIECES_ALREADY" (.int (-4))
  vNoRoom : Gv mg "NO_ROOM" (.int (-5))
  vNone : Gv mg "NONE_RIGHT" (.int (-6))
  vMost : Gv mg "MOST" (.int 6)
  vCost : Gv mg "MOST_COST" (.int 1000)
  vLast : Gv mg "LAST_MINUTE" (.int 3600)
  vMinutes : Gv mg "MOST_MINUTES" (.int 600)
  vNumbers : ∃ a, Gv mg "NUMBERS" (.ref a) ∧ ∀ H, SqT K H a [.int 0, .int 3, .int 1, .int 2, .int 0, .int 0, .int 0]
  vLists : ∃ a, Gv mg "LISTS" (.ref a) ∧ ∀ H, SqT K H a [.int 0, .int 0, .int 1, .int 0, .int 0, .int 1, .int 0]

/-! ### attributes -/
theorem lk_here {k : Str} {v : V} {r : List (Str × V)} : List.lookup k ((k, v) :: r) = some v := by
  have e : (k == k) = true := beq_self_eq_true k
  simp only [List.lookup, e]
theorem lk_past {k g : Str} {v : V} {r : List (Str × V)} (h : (k == g) = false) : List.lookup k ((g, v) :: r) = List.lookup k r := by
  simp only [List.lookup, h]
theorem put_here {f : Str} {v x : V} {r : List (Str × V)} : putF f v ((f, x) :: r) = (f, v) :: r := if_pos rfl
theorem put_past {f g : Str} {v x : V} {r : List (Str × V)} (h : ¬ g = f) : putF f v ((g, x) :: r) = (g, x) :: putF f v r := if_neg h
/-- three attributes, two -/
def f3 (a b c : Str) : List V → List (Str × V)
  | [x, y, z] => [(a, x), (b, y), (c, z)]
  | _ => []
def f2 (a b : Str) : List V → List (Str × V)
  | [x, y] => [(a, x), (b, y)]
  | _ => []
abbrev fP : List V → List (Str × V) := f3 "cost" "since" "till"
abbrev fC : List V → List (Str × V) := f2 "minutes" "players"
abbrev fS : List V → List (Str × V) := f3 "comes" "goes" "busy"
abbrev fD : List V → List (Str × V) := f3 "players" "pieces" "pairs"
section
variable {x y z u : V}
theorem fP_cost : (fP [x, y, z]).lookup ("cost" : Str) = some x := lk_here
theorem fP_since : (fP [x, y, z]).lookup ("since" : Str) = some y := (lk_past (by decide +kernel)).trans lk_here
theorem fP_till : (fP [x, y, z]).lookup ("till" : Str) = some z := (lk_past (by decide +kernel)).trans ((lk_past (by decide +kernel)).trans lk_here)
theorem fC_min : (fC [x, y]).lookup ("minutes" : Str) = some x := lk_here
theorem fC_pl : (fC [x, y]).lookup ("players" : Str) = some y := (lk_past (by decide +kernel)).trans lk_here
theorem fS_co : (fS [x, y, z]).lookup ("comes" : Str) = some x := lk_here
theorem fS_go : (fS [x, y, z]).lookup ("goes" : Str) = some y := (lk_past (by decide +kernel)).trans lk_here
theorem fS_bu : (fS [x, y, z]).lookup ("busy" : Str) = some z := (lk_past (by decide +kernel)).trans ((lk_past (by decide +kernel)).trans lk_here)
theorem f3_none {a b c m : Str} (h1 : (m == a) = false) (h2 : (m == b) = false) (h3 : (m == c) = false) : (f3 a b c [x, y, z]).lookup m = none := (lk_past h1).trans ((lk_past h2).trans ((lk_past h3).trans rfl))
theorem fD_pl : (fD [x, y, z]).lookup ("players" : Str) = some x := lk_here
theorem fD_pc : (fD [x, y, z]).lookup ("pieces" : Str) = some y := (lk_past (by decide +kernel)).trans lk_here
theorem fD_pr : (fD [x, y, z]).lookup ("pairs" : Str) = some z := (lk_past (by decide +kernel)).trans ((lk_past (by decide +kernel)).trans lk_here)
theorem put3 {a b c : Str} (h1 : ¬ a = b) (h2 : ¬ a = c) (h3 : ¬ b = c) : putF c z (putF b y (putF a x [])) = f3 a b c [x, y, z] := by
  have e1 : putF a x [] = [(a, x)] := rfl
  have e2 : putF b y [(a, x)] = [(a, x), (b, y)] := put_past h1
  have e3 : putF c z [(a, x), (b, y)] = [(a, x), (b, y), (c, z)] := (put_past h2).trans (congrArg _ (put_past h3))
  rw [e1, e2, e3]
  rfl
theorem put2 {a b : Str} (h1 : ¬ a = b) : putF b y (putF a x []) = f2 a b [x, y] := by
  have e1 : putF a x [] = [(a, x)] := rfl
  have e2 : putF b y [(a, x)] = [(a, x), (b, y)] := put_past h1
  rw [e1, e2]
  rfl
end

/-! ### how things lie -/
def RPl (cP : Addr) (p : Uw03.Player) (v : V) (H : Hp) : Prop := ∃ a dx, v = .ref a ∧ H a = some (.ins cP dx (fP [.int (p.rate : Nat), .int (p.from_ : Nat), .int (p.till : Nat)]))
/-- a piece; N: lists that its players are not in -/
def RPcN (N : List Addr) (cC : Addr) (p : Uw03.Piece) (v : V) (H : Hp) : Prop := ∃ a dx q, v = .ref a ∧ q ∉ N ∧ H a = some (.ins cC dx (fC [.int (p.long : Nat), .ref q])) ∧ H q = some (.lst (vi p.players))
abbrev RPc (cC : Addr) (p : Uw03.Piece) (v : V) (H : Hp) : Prop := RPcN [] cC p v H
def RPr (x : Nat × Nat) (v : V) (H : Hp) : Prop := ∃ t, v = .ref t ∧ H t = some (.tup [.int (x.1 : Nat), .int (x.2 : Nat)])
def RSy (cS : Addr) (s : Option Sy) (v : V) (H : Hp) : Prop := match s with
  | none => v = .non
  | some s => ∃ a dx, v = .ref a ∧ H a = some (.ins cS dx (fS [.int (s.comes : Nat), .int (s.goes : Nat), .int (s.busy : Nat)]))
/-- an order's list, new over G -/
def ROr (G : Hp) (o : List Nat) (v : V) (H : Hp) : Prop := ∃ p, v = .ref p ∧ G p = none ∧ H p = some (.lst (vi o))
/-- what it costs, and the order -/
def RCo (G : Hp) (x : Nat × List Nat) (v : V) (H : Hp) : Prop := ∃ t p, v = .ref t ∧ H t = some (.tup [.int (x.1 : Nat), .ref p]) ∧ G p = none ∧ H p = some (.lst (vi x.2))
def RInt (n : Nat) (v : V) (_ : Hp) : Prop := v = .int (n : Int)
section
variable {cP cC cS : Addr} {N : List Addr} {G H H' : Hp} {p : Addr}
theorem mono_pl : Mono (RPl cP) := fun _ _ _ _ e ⟨a, dx, h1, h2⟩ => ⟨a, dx, h1, e _ _ h2⟩
theorem mono_pc : Mono (RPcN N cC) := fun _ _ _ _ e ⟨a, dx, q, h1, hn, h2, h3⟩ => ⟨a, dx, q, h1, hn, e _ _ h2, e _ _ h3⟩
theorem mono_pr : Mono RPr := fun _ _ _ _ e ⟨a, h1, h2⟩ => ⟨a, h1, e _ _ h2⟩
theorem mono_sy : Mono (RSy cS) := fun s _ _ _ e h => match s, h with
  | none, h => h
  | some _, ⟨a, dx, h1, h2⟩ => ⟨a, dx, h1, e _ _ h2⟩
theorem mono_or : Mono (ROr G) := fun _ _ _ _ e ⟨a, h1, hn, h2⟩ => ⟨a, h1, hn, e _ _ h2⟩
theorem mono_co : Mono (RCo G) := fun _ _ _ _ e ⟨t, a, h1, h2, hn, h3⟩ => ⟨t, a, h1, e _ _ h2, hn, e _ _ h3⟩
theorem mono_int : Mono RInt := fun _ _ _ _ _ h => h
theorem ins_upd {H : Hp} {a p C dx : Addr} {fs : List (Str × V)} {acc : List V} {o : HO} (h : H p = some (.lst acc)) (h2 : H a = some (.ins C dx fs)) : upd H p o a = some (.ins C dx fs) := by
  rw [upd_ne (ne_of h2 h (fun z => nomatch z))]
  exact h2
theorem tup_upd {H : Hp} {a p : Addr} {xs : List V} {acc : List V} {o : HO} (h : H p = some (.lst acc)) (h2 : H a = some (.tup xs)) : upd H p o a = some (.tup xs) := by
  rw [upd_ne (ne_of h2 h (fun z => nomatch z))]
  exact h2
theorem off_pl : Off (RPl cP) p := fun _ _ _ _ _ h ⟨a, dx, h1, h2⟩ => ⟨a, dx, h1, ins_upd h h2⟩
theorem off_pc (hp : p ∈ N) : Off (RPcN N cC) p := fun _ _ _ _ _ h ⟨a, dx, q, h1, hn, h2, h3⟩ => ⟨a, dx, q, h1, hn, ins_upd h h2, by
  rw [upd_ne (fun z => hn (by rw [z]; exact hp))]
  exact h3⟩
theorem off_pr : Off RPr p := fun _ _ _ _ _ h ⟨a, h1, h2⟩ => ⟨a, h1, tup_upd h h2⟩
theorem off_sy : Off (RSy cS) p := fun s _ _ _ _ h q => match s, q with
  | none, q => q
  | some _, ⟨a, dx, h1, h2⟩ => ⟨a, dx, h1, ins_upd h h2⟩
theorem off_or (hp : ¬ G p = none) : Off (ROr G) p := fun _ _ _ _ _ h ⟨a, h1, hn, h2⟩ => ⟨a, h1, hn, by
  rw [upd_ne (fun z => hp (by rw [← z]; exact hn))]
  exact h2⟩
theorem off_co (hp : ¬ G p = none) : Off (RCo G) p := fun _ _ _ _ _ h ⟨t, a, h1, h2, hn, h3⟩ => ⟨t, a, h1, tup_upd h h2, hn, by
  rw [upd_ne (fun z => hp (by rw [← z]; exact hn))]
  exact h3⟩
theorem off_int : Off RInt p := fun _ _ _ _ _ _ h => h
theorem pc_forget {q : Uw03.Piece} {v : V} (h : RPcN N cC q v H) : RPc cC q v H := let ⟨a, dx, q, h1, _, h2, h3⟩ := h; ⟨a, dx, q, h1, List.not_mem_nil, h2, h3⟩
/-- a list of ints is a list of what stands for them -/
theorem rep_int {l : List Nat} : RepL RInt H p l ↔ H p = some (.lst (vi l)) := by
  constructor
  · rintro ⟨vs, h1, h2, h3⟩
    have e : vs = vi l := by
      refine List.ext_getElem? fun i => ?_
      by_cases c : i < l.length
      · have hx : l[i]? = some l[i] := List.getElem?_eq_getElem c
        have hv : vs[i]? = some vs[i] := List.getElem?_eq_getElem (by omega)
        rw [vi_get hx, hv, h3 i _ _ hx hv]
      · rw [List.getElem?_eq_none (by omega), List.getElem?_eq_none (by rw [vi_len]; omega)]
    rw [h1, e]
  · intro h
    refine ⟨vi l, h, vi_len l, fun i x v hx hv => ?_⟩
    rw [vi_get hx] at hv
    exact (Option.some.inj hv).symm
end
/-- a day at a, its lists at pl, pc, pr -/
structure DayAt (cP cC cD : Addr) (N : List Addr) (H : Hp) (a pl pc pr : Addr) (d : Uw03.Day) : Prop where
  obj : ∃ dx, H a = some (.ins cD dx (fD [.ref pl, .ref pc, .ref pr]))
  pls : RepL (RPl cP) H pl d.players
  pcs : RepL (RPcN (pl :: pc :: pr :: N) cC) H pc d.pieces
  prs : RepL RPr H pr d.ahead
  n1 : pl ≠ pc
  n2 : pl ≠ pr
  n3 : pc ≠ pr
  occ : ∀ b ∈ N, ∃ o, H b = some o
theorem DayAt.mono {cP cC cD : Addr} {H H' : Hp} {N : List Addr} {a pl pc pr : Addr} {d : Uw03.Day} (e : Ex H H') (h : DayAt cP cC cD N H a pl pc pr d) : DayAt cP cC cD N H' a pl pc pr d :=
  let ⟨⟨dx, o⟩, h1, h2, h3, n1, n2, n3, oc⟩ := h
  ⟨⟨dx, e _ _ o⟩, h1.mono mono_pl e, h2.mono mono_pc e, h3.mono mono_pr e, n1, n2, n3, fun b hb => let ⟨o, ho⟩ := oc b hb; ⟨o, e _ _ ho⟩⟩
theorem occ_upd {N : List Addr} {H : Hp} {p : Addr} {o : HO} (h : ∀ b ∈ N, ∃ o, H b = some o) : ∀ b ∈ N, ∃ u, upd H p o b = some u := fun b hb => by
  by_cases c : b = p
  · exact ⟨o, by rw [c]; exact upd_same⟩
  · obtain ⟨u, hu⟩ := h b hb
    exact ⟨u, by rw [upd_ne c]; exact hu⟩

/-! ### the smallest defs -/
section
variable {P : Program} {w : World} {K : PySem.W.Frag} {mg : Str → Option Value} {base : Heap} {cP cC cS cD : Addr}
theorem sc_player : FnScope ["self", "cost", "since", "till"] ["self", "cost", "since", "till"] (defScope xPlayer) := ⟨rfl, rfl, rfl, by decide +kernel, rfl, by decide +kernel, by decide +kernel⟩
theorem three {ws : List V} (h : ws.length = 3) : ∃ x y z, ws = [x, y, z] := match ws, h with
  | [x, y, z], _ => ⟨x, y, z, rfl⟩
theorem two {ws : List V} (h : ws.length = 2) : ∃ x y, ws = [x, y] := match ws, h with
  | [x, y], _ => ⟨x, y, rfl⟩
theorem ok_player {f : Addr} {fd : FuncData} (F : Fun K "__init__" "Player.__init__" xPlayer f fd) (T : Txt K mg cP cC cS cD) : FnOk P w K mg base CX0 1 f fd ["self", "cost", "since", "till"] (spFields cP fP 3) := by
  refine F.ok sc_player (fun vs H Q E h => ?_) (fun cdv A outer s H vs Q E hr h => ?_)
  · obtain ⟨a, dx, ws, rfl, hl, _⟩ := h
    rw [List.length_cons, hl]
    rfl
  · obtain ⟨a, dx, ws, rfl, hl, ho, q⟩ := h
    obtain ⟨x, y, z, rfl⟩ := three hl
    refine ⟨_, pss_cons (ps_fld (pv 0) (pv 1) rfl) (pss_cons (ps_fld (pv 0) (pv 2) rfl) (pss_one (ps_fld (pv 0) (pv 3) rfl))), ?_⟩
    refine ⟨_, rfl, _, rfl, a, cP, dx, [], rfl, ho, T.clP, T.pCost, (by show 0 < 1000; decide), ?_⟩
    refine ⟨_, rfl, _, rfl, a, cP, dx, _, rfl, upd_same, T.clP, T.pSince, (by show 1 < 1000; decide), ?_⟩
    refine ⟨_, rfl, _, rfl, a, cP, dx, _, rfl, upd_same, T.clP, T.pTill, (by rw [show putF "since" y (putF "cost" x []) = f2 "cost" "since" [x, y] from put2 (by decide +kernel)]; show 2 < 1000; decide), ?_⟩
    show Q .non (upd (upd (upd H a _) a _) a (.ins cP dx (putF "till" z (putF "since" y (putF "cost" x [])))))
    rw [put3 (by decide +kernel) (by decide +kernel) (by decide +kernel), upd_upd, upd_upd]
    exact q
theorem sc_piece : FnScope ["self", "minutes", "players"] ["self", "minutes", "players"] (defScope xPiece) := ⟨rfl, rfl, rfl, by decide +kernel, rfl, by decide +kernel, by decide +kernel⟩
theorem ok_piece {f : Addr} {fd : FuncData} (F : Fun K "__init__" "Piece.__init__" xPiece f fd) (T : Txt K mg cP cC cS cD) : FnOk P w K mg base CX0 1 f fd ["self", "minutes", "players"] (spFields cC fC 2) := by
  refine F.ok sc_piece (fun vs H Q E h => ?_) (fun cdv A outer s H vs Q E hr h => ?_)
  · obtain ⟨a, dx, ws, rfl, hl, _⟩ := h
    rw [List.length_cons, hl]
    rfl
  · obtain ⟨a, dx, ws, rfl, hl, ho, q⟩ := h
    obtain ⟨x, y, rfl⟩ := two hl
    refine ⟨_, pss_cons (ps_fld (pv 0) (pv 1) rfl) (pss_one (ps_fld (pv 0) (pv 2) rfl)), ?_⟩
    refine ⟨_, rfl, _, rfl, a, cC, dx, [], rfl, ho, T.clC, T.cMin, (by show 0 < 1000; decide), ?_⟩
    refine ⟨_, rfl, _, rfl, a, cC, dx, _, rfl, upd_same, T.clC, T.cPl, (by show 1 < 1000; decide), ?_⟩
    show Q .non (upd (upd H a _) a (.ins cC dx (putF "players" y (putF "minutes" x []))))
    rw [put2 (by decide +kernel), upd_upd]
    exact q
theorem sc_stay : FnScope ["self", "comes", "goes", "busy"] ["self", "comes", "goes", "busy"] (defScope xStay) := ⟨rfl, rfl, rfl, by decide +kernel, rfl, by decide +kernel, by decide +kernel⟩
theorem ok_stay {f : Addr} {fd : FuncData} (F : Fun K "__init__" "Stay.__init__" xStay f fd) (T : Txt K mg cP cC cS cD) : FnOk P w K mg base CX0 1 f fd ["self", "comes", "goes", "busy"] (spFields cS fS 3) := by
  refine F.ok sc_stay (fun vs H Q E h => ?_) (fun cdv A outer s H vs Q E hr h => ?_)
  · obtain ⟨a, dx, ws, rfl, hl, _⟩ := h
    rw [List.length_cons, hl]
    rfl
  · obtain ⟨a, dx, ws, rfl, hl, ho, q⟩ := h
    obtain ⟨x, y, z, rfl⟩ := three hl
    refine ⟨_, pss_cons (ps_fld (pv 0) (pv 1) rfl) (pss_cons (ps_fld (pv 0) (pv 2) rfl) (pss_one (ps_fld (pv 0) (pv 3) rfl))), ?_⟩
    refine ⟨_, rfl, _, rfl, a, cS, dx, [], rfl, ho, T.clS, T.sCo, (by show 0 < 1000; decide), ?_⟩
    refine ⟨_, rfl, _, rfl, a, cS, dx, _, rfl, upd_same, T.clS, T.sGo, (by show 1 < 1000; decide), ?_⟩
    refine ⟨_, rfl, _, rfl, a, cS, dx, _, rfl, upd_same, T.clS, T.sBu, (by rw [show putF "goes" y (putF "comes" x []) = f2 "comes" "goes" [x, y] from put2 (by decide +kernel)]; show 2 < 1000; decide), ?_⟩
    show Q .non (upd (upd (upd H a _) a _) a (.ins cS dx (putF "busy" z (putF "goes" y (putF "comes" x [])))))
    rw [put3 (by decide +kernel) (by decide +kernel) (by decide +kernel), upd_upd, upd_upd]
    exact q

/-- a stay's own self -/
def SyAt (cS : Addr) (H : Hp) (a : Addr) (s : Sy) : Prop := ∃ dx, H a = some (.ins cS dx (fS [.int (s.comes : Nat), .int (s.goes : Nat), .int (s.busy : Nat)]))
def spThere (cS : Addr) : Sp := fun vs H Q _ => ∃ (a : Addr) (s : Sy), vs = [.ref a] ∧ SyAt cS H a s ∧ SyOk s ∧ ∀ H', Ex H H' → Q (.int ((s.goes - s.comes : Nat) : Int)) H'
theorem sc_there : FnScope ["self"] ["self"] (defScope xThere) := ⟨rfl, rfl, rfl, by decide +kernel, rfl, by decide +kernel, by decide +kernel⟩
theorem ok_there {f : Addr} {fd : FuncData} (F : Fun K "there" "Stay.there" xThere f fd) (T : Txt K mg cP cC cS cD) : FnOk P w K mg base CX0 1 f fd ["self"] (spThere cS) := by
  refine F.ok sc_there (fun vs H Q E h => ?_) (fun cdv A outer s H vs Q E hr h => ?_)
  · obtain ⟨a, s, rfl, _⟩ := h
    rfl
  · obtain ⟨a, s, rfl, ⟨dx, ho⟩, ok, q⟩ := h
    refine ⟨_, pss_one (ps_ret (pe_op op_sub (pe_fld (pv 0) rfl) (pe_fld (pv 0) rfl))), ?_⟩
    refine s_ret (ev_is (ev_op (ev_fld (ev_var rfl) ho T.clS T.sGo fS_go) (ev_fld (ev_var rfl) ho T.clS T.sCo fS_co) rv_I0) ?_) q
    have := syOk_le ok
    exact congrArg V.int (by omega)
end
end Reh
end RdText
section RdStay
/-! Stays: numbers, stay_in, stays_in, as_list, stays_told, stay_wrong. -/
namespace Reh
open PySem PySem.Spec PyProof.Rows L2 Evl
section
variable {P : Program} {w : World} {K : PySem.W.Frag} {mg : Str → Option Value} {base : Heap} {cP cC cS cD : Addr}
theorem SyAt.mono {H H' : Hp} {a : Addr} {s : Sy} (e : Ex H H') (h : SyAt cS H a s) : SyAt cS H' a s := let ⟨dx, ho⟩ := h; ⟨dx, e _ _ ho⟩
theorem sp_there {H : Hp} {a : Addr} {s : Sy} (h : SyAt cS H a s) (ok : SyOk s) : SpP (spThere cS) [.ref a] H (fun v _ => v = .int ((s.goes - s.comes : Nat) : Int)) :=
  fun H1 e Q q E => ⟨a, s, rfl, h.mono e, ok, fun H' e' => q _ H' e' rfl⟩
theorem rv_isN {v : V} {H : Hp} : RV (fun x y H Q => y = .non ∧ Q (.bl (decide (x = .non))) H) v .non H (.bl (decide (v = .non))) := fun H1 _ _ q => ⟨rfl, q H1 (Ex.refl H1)⟩
theorem rv_notN {v : V} {H : Hp} : RV (fun x y H Q => y = .non ∧ Q (.bl (!decide (x = .non))) H) v .non H (.bl (!decide (v = .non))) := fun H1 _ _ q => ⟨rfl, q H1 (Ex.refl H1)⟩

/-! ### Stay.numbers -/
def spNumbers (cS : Addr) : Sp := fun vs H Q _ => ∃ (a : Addr) (s : Sy), vs = [.ref a] ∧ SyAt cS H a s ∧ SyOk s ∧ ∀ p H', H p = none → Ex H H' → H' p = some (.lst (vi (syNums s))) → Q (.ref p) H'
theorem sc_numbers : FnScope ["self"] ["self"] (defScope xNumbers) := ⟨rfl, rfl, rfl, by decide +kernel, rfl, by decide +kernel, by decide +kernel⟩
theorem ok_numbers {f : Addr} {fd : FuncData} (F : Fun K "numbers" "Stay.numbers" xNumbers f fd) (T : Txt K mg cP cC cS cD) (c1 : CalM P w K mg base cS "there" 1 ["self"] (spThere cS)) : FnOk P w K mg base CX0 2 f fd ["self"] (spNumbers cS) := by
  refine F.ok sc_numbers (fun vs H Q E h => ?_) (fun cdv A outer s H vs Q E hr h => ?_)
  · obtain ⟨a, s, rfl, _⟩ := h
    rfl
  · obtain ⟨a, s, rfl, ⟨dx, ho⟩, ok, q⟩ := h
    refine ⟨_, pss_one (ps_ret (pe_lst (pa_cons (pe_fld (pv 0) rfl) (pa_cons (pe_fld (pv 0) rfl) (pa_cons (pe_op op_sub (pe_calm0 (pv 0) T.clS c1 hr) (pe_fld (pv 0) rfl)) pa_nil))))), ?_⟩
    have t1 : ∀ {te : TE}, Ev te _ H (.ref a) → Ev (tMeth cS "there" (spThere cS) [] E0 te tNil) [some (.ref a)] H (.int ((s.goes - s.comes : Nat) : Int)) := fun hte =>
      ev_of (ep_meth hte ho (f3_none (by decide +kernel) (by decide +kernel) (by decide +kernel)) ea_nil (sp_there ⟨dx, ho⟩ ok)) fun v _ _ e => e
    refine s_retL (el_lst (ea_cons (ev_fld (ev_var rfl) ho T.clS T.sCo fS_co) (ea_cons (ev_fld (ev_var rfl) ho T.clS T.sGo fS_go) (ea_cons (ev_is (ev_op (t1 (ev_var rfl)) (ev_fld (ev_var rfl) ho T.clS T.sBu fS_bu) rv_I0) ?_) ea_nil))) ?_) q
    · have := syOk_le ok
      exact congrArg V.int (show ((s.goes - s.comes : Nat) : Int) - (s.busy : Int) = ((s.goes - s.comes - s.busy : Nat) : Int) by omega)
    · show 3 ≤ 100000
      decide

/-! ### stay_in -/
def spStayIn (cC cS : Addr) : Sp := fun vs H Q _ => ∃ (pp po : Addr) (d : Uw03.Day) (o : List Nat) (a : Nat), vs = [.ref pp, .ref po, .int (a : Int)] ∧ RepL (RPc cC) H pp d.pieces ∧ H po = some (.lst (vi o)) ∧ (∀ x ∈ o, x < d.pieces.length) ∧
  ∀ v H', Ex H H' → RSy cS (syIn d o a) v H' → Q v H'
abbrev nStayIn : List Str := ["pieces", "order", "player", "found", "minute", "number", "begin"]
theorem sc_stay_in : FnScope nStayIn ["pieces", "order", "player"] (defScope xStayIn) := ⟨rfl, rfl, rfl, by decide +kernel, rfl, by decide +kernel, by decide +kernel⟩
theorem syRun_succ {d : Uw03.Day} {o : List Nat} {a i n : Nat} (h : o[i]? = some n) : syRun d (o.take (i + 1)) a = syStep d a (syRun d (o.take i) a) n := by
  unfold syRun
  rw [List.take_add_one, h, List.foldl_append]
  rfl
theorem syStep_yes {d : Uw03.Day} {a n : Nat} {s : Option Sy × Nat} (h : d.has n a = true) : (syStep d a s n).1 = some (match s.1 with
    | none => ⟨s.2, s.2 + d.long n, d.long n⟩
    | some x => ⟨x.comes, s.2 + d.long n, x.busy + d.long n⟩) := if_pos h
theorem syStep_no {d : Uw03.Day} {a n : Nat} {s : Option Sy × Nat} (h : d.has n a = false) : (syStep d a s n).1 = s.1 := if_neg (by rw [h]; exact Bool.false_ne_true)
theorem dlong_of {d : Uw03.Day} {n : Nat} {p : Uw03.Piece} (h : d.pieces[n]? = some p) : d.long n = p.long := by
  unfold Uw03.Day.long
  rw [h]
  rfl
theorem dhas_of {d : Uw03.Day} {n a : Nat} {p : Uw03.Piece} (h : d.pieces[n]? = some p) : d.has n a = p.players.contains a := by
  unfold Uw03.Day.has
  rw [h]
  rfl
theorem ok_stay_in {f : Addr} {fd : FuncData} (F : Fun K "stay_in" "stay_in" xStayIn f fd) (T : Txt K mg cP cC cS cD) (c1 : CalC P w K mg base "Stay" cS 1 ["self", "comes", "goes", "busy"] (spFields cS fS 3)) :
    FnOk P w K mg base CX0 3 f fd ["pieces", "order", "player"] (spStayIn cC cS) := by
  refine F.ok sc_stay_in (fun vs H Q E h => ?_) (fun cdv A outer s H vs Q E hr h => ?_)
  · obtain ⟨pp, po, d, o, a, rfl, _⟩ := h
    rfl
  · obtain ⟨pp, po, d, o, a, rfl, hpc, ho, hlt, q⟩ := h
    have nd := sc_stay_in.nd
    refine ⟨_, pss_cons (ps_set (i := 3) nd rfl (.inl rfl) pe_non) (pss_cons (ps_set (i := 4) nd rfl (.inl rfl) pe_int)
      (pss_cons (ps_for PassesOwn.never rfl (pi_list (pv 1)) (pg_name (i := 5) nd rfl (.inl rfl))
        (pss_cons (ps_set (i := 6) nd rfl (.inl rfl) (pv 4))
        (pss_cons (ps_set (i := 4) nd rfl (.inl rfl) (pe_op op_add (pv 4) (pe_fld (pe_ix ix_list (pv 0) (pv 5) (fun _ _ => rfl)) rfl)))
        (pss_one (ps_if (pt_cmpR op_in_seq (pv 2) (pe_fld (pe_ix ix_list (pv 0) (pv 5) (fun _ _ => rfl)) rfl) (by rfl))
          (pss_one (ps_if (pt_cmpR op_isN (pv 3) pe_non (nomark _))
            (pss_one (ps_set (i := 3) nd rfl (.inl rfl) (pe_calc c1 hr (pa_cons (pv 6) (pa_cons (pv 4) (pa_cons (pe_op op_sub (pv 4) (pv 6)) pa_nil))))))
            (pss_one (ps_set (i := 3) nd rfl (.inl rfl) (pe_calc c1 hr (pa_cons (pe_fld (pv 3) rfl) (pa_cons (pv 4) (pa_cons (pe_op op_sub (pe_op op_add (pe_fld (pv 3) rfl) (pv 4)) (pv 6)) pa_nil))))))))
          pss_nil)))))
      (pss_one (ps_ret (pv 3))))), ?_⟩
    refine q_asg ev_c fun H1 e1 => q_asg ev_c fun H2 e2 => ?_
    have e02 := e1.trans e2
    refine q_forLn (K := K) (a := po) (xs := vi o) (ev_var rfl) (sq_of (e02 _ _ ho)) (fun i σ H' => ∃ (v : V) (y5 y6 : Option V), σ = [some (.ref pp), some (.ref po), some (.int (a : Int)), some v, some (.int ((syRun d (o.take i) a).2 : Nat)), y5, y6] ∧ Ex H H' ∧ RSy cS (syRun d (o.take i) a).1 v H')
      (fun H3 e3 => ⟨.non, none, none, rfl, e02.trans e3, rfl⟩) (fun i σ' H' _ ⟨_, _, _, _, e, _⟩ => sq_of (e _ _ ho)) ?_ ?_
    · rintro i x σ' H' hx ⟨v, y5, y6, rfl, e, hv⟩
      obtain ⟨n, hn, rfl⟩ := vi_of hx
      have hnl : n < d.pieces.length := hlt n (List.mem_of_getElem? hn)
      have hp : d.pieces[n]? = some d.pieces[n] := List.getElem?_eq_getElem hnl
      obtain ⟨pvs, h1, h2, h3⟩ := id (hpc.mono mono_pc e)
      have hpv : pvs[n]? = some pvs[n] := List.getElem?_eq_getElem (by omega)
      obtain ⟨ap, dxp, ql, ep, _, hap, hql⟩ := h3 n _ _ hp hpv
      generalize hgp : d.pieces[n] = p at *
      generalize hgv : pvs[n] = pw at *
      subst ep
      have step := syRun_succ (d := d) (a := a) hn
      have eL : V.int ((((syStep d a (syRun d (o.take i) a) n).2 : Nat) : Int) - ((syRun d (o.take i) a).2 : Int)) = V.int (d.long n : Nat) := by
        refine congrArg V.int ?_
        show (((syRun d (o.take i) a).2 + d.long n : Nat) : Int) - ((syRun d (o.take i) a).2 : Int) = (d.long n : Int)
        omega
      have eB : ∀ s0 : Sy, V.int ((s0.busy : Int) + (((syStep d a (syRun d (o.take i) a) n).2 : Nat) : Int) - ((syRun d (o.take i) a).2 : Int)) = V.int ((s0.busy + d.long n : Nat) : Int) := fun s0 => by
        refine congrArg V.int ?_
        show (s0.busy : Int) + (((syRun d (o.take i) a).2 + d.long n : Nat) : Int) - ((syRun d (o.take i) a).2 : Int) = ((s0.busy + d.long n : Nat) : Int)
        omega
      -- begin = minute
      refine q_asg (ev_var rfl) fun H3 e3 => ?_
      -- minute = minute + pieces[number].minutes
      refine q_asg (v := .int ((syStep d a (syRun d (o.take i) a) n).2 : Nat)) (ev_is (ev_op (ev_var rfl) (ev_fld (ev_op (ev_var rfl) (ev_var rfl) (rv_ixL (sq_of (e3 _ _ h1)) (atI_nat hpv))) (e3 _ _ hap) T.clC T.cMin fC_min) rv_I0) ?_) fun H4 e4 => ?_
      · refine congrArg V.int ?_
        show ((syRun d (o.take i) a).2 : Int) + (p.long : Int) = (((syRun d (o.take i) a).2 + d.long n : Nat) : Int)
        rw [dlong_of hp]
        omega
      have e14 := e3.trans e4
      -- if player in pieces[number].players
      refine s_when (b := d.has n a) (et_is (et_test (ev_op (ev_var rfl) (ev_fld (ev_op (ev_var rfl) (ev_var rfl) (rv_ixL (sq_of (e14 _ _ h1)) (atI_nat hpv))) (e14 _ _ hap) T.clC T.cPl fC_pl) (rv_isL (sq_of (e14 _ _ hql)) rfl (vi_flat _)))) (by rw [inV_vi, dhas_of hp])) (fun hb H5 e5 => ?_) (fun hb H5 e5 => ?_)
      · have e15 := e14.trans e5
        refine s_if (et_test (ev_op (ev_var rfl) ev_c rv_isN)) (fun hN H6 e6 => ?_) (fun hN H6 e6 => ?_)
        · have hvn : v = .non := of_decide_eq_true hN
          have hs0 : (syRun d (o.take i) a).1 = none := by
            cases z : (syRun d (o.take i) a).1 with
            | none => rfl
            | some s0 =>
              rw [z] at hv
              obtain ⟨_, _, ev, _⟩ := hv
              rw [hvn] at ev
              cases ev
          refine s_asgP (P := RSy cS (some ⟨(syRun d (o.take i) a).2, (syStep d a (syRun d (o.take i) a) n).2, d.long n⟩)) (ep_make (ea_p (ea_cons (ev_var rfl) (ea_cons (ev_var rfl) (ea_cons (ev_is (ev_op (ev_var rfl) (ev_var rfl) rv_I0) eL) ea_nil)))) (fun vs _ z => by rw [z]; rfl) fun vs G1 G2 aS dxS _ _ z hS => by rw [z] at hS; exact ⟨aS, dxS, rfl, hS⟩) fun v' H7 e7 hv' => ?_
          refine ⟨v', _, _, by rw [step]; rfl, (((e.trans e15).trans e6).trans e7), ?_⟩
          rw [step, syStep_yes hb, hs0]
          exact hv'
        · have hvn : ¬ v = .non := of_decide_eq_false hN
          cases z : (syRun d (o.take i) a).1 with
          | none =>
            rw [z] at hv
            exact absurd hv hvn
          | some s0 =>
            rw [z] at hv
            obtain ⟨a0, dx0, rfl, h0⟩ := hv
            have h0' := (e15.trans e6) _ _ h0
            refine s_asgP (P := RSy cS (some ⟨s0.comes, (syStep d a (syRun d (o.take i) a) n).2, s0.busy + d.long n⟩)) (ep_make (ea_p (ea_cons (ev_fld (ev_var rfl) h0' T.clS T.sCo fS_co) (ea_cons (ev_var rfl) (ea_cons (ev_is (ev_op (ev_op (ev_fld (ev_var rfl) h0' T.clS T.sBu fS_bu) (ev_var rfl) rv_I0) (ev_var rfl) rv_I0) (eB s0)) ea_nil)))) (fun vs _ z => by rw [z]; rfl) fun vs G1 G2 aS dxS _ _ z hS => by rw [z] at hS; exact ⟨aS, dxS, rfl, hS⟩) fun v' H7 e7 hv' => ?_
            refine ⟨v', _, _, by rw [step]; rfl, (((e.trans e15).trans e6).trans e7), ?_⟩
            rw [step, syStep_yes hb, z]
            exact hv'
      · refine ⟨v, _, _, by rw [step]; rfl, e.trans (e14.trans e5), ?_⟩
        rw [step, syStep_no hb]
        exact mono_sy _ _ _ _ (e14.trans e5) hv
    · rintro σ' H' ⟨v, y5, y6, rfl, e, hv⟩
      rw [vi_len, List.take_length] at hv
      exact s_ret (ev_var rfl) fun H1 e1 => q v H1 (e.trans e1) (mono_sy _ _ _ _ e1 hv)
end
end Reh
end RdStay
section RdWalks
/-! Walks: comprehensions and for loops over lists, ranges, zip, enumerate, whose items stand for something. -/
namespace Reh
open PySem PySem.Spec PyProof.Rows L2 Evl

/-- what a loop or comprehension walks: n turns, what each gives -/
def IW (wi : TI) (σ : L2.St) (H : Hp) (n : Nat) (Y : Nat → Hp → V → Hp → Prop) : Prop :=
  ∀ H1, Ex H H1 → ∀ Rq : It → Hp → Prop, (∀ J G H2, Ex H1 H2 → Walk J n G Y → (∀ H3, Ex H2 H3 → G H3) → Rq J H2) → wi σ H1 Rq
section
variable {K : PySem.W.Frag} {σ : L2.St} {H : Hp} {tl : TE} {ta : TA} {a b : Addr} {xs ys : List V}
theorem iw_list (h : Ev tl σ H (.ref a)) (hx : SqL K H a xs) : IW (iList K tl) σ H xs.length (YAt xs) := fun H1 e Rq q =>
  h H1 e _ fun H2 e2 => ⟨a, rfl, ⟨xs, ex_l (e.trans e2) hx⟩, q _ _ H2 e2 walk_list fun H3 e3 => ex_l ((e.trans e2).trans e3) hx⟩
theorem iw_listP {P : V → Hp → Prop} (h : EvP tl σ H P) (hx : ∀ v H1, Ex H H1 → P v H1 → ∃ a, v = .ref a ∧ SqL K H1 a xs) : IW (iList K tl) σ H xs.length (YAt xs) := fun H1 e Rq q =>
  h H1 e _ fun v H2 e2 p => let ⟨a, ev, hs⟩ := hx v H2 (e.trans e2) p; ⟨a, ev, ⟨xs, hs⟩, q _ _ H2 e2 walk_list fun H3 e3 => ex_l e3 hs⟩
theorem iw_rng {n : Nat} (h : EvA ta σ H [.int (n : Int)]) (hn : n ≤ 100000) : IW (iRng1 ta) σ H n (YFn fun i => .int (i : Nat)) := fun H1 e Rq q =>
  h H1 e _ fun H2 e2 => ⟨(n : Int), rfl, by omega, by omega, by
    rw [Int.toNat_natCast]
    refine q _ (fun _ => True) H2 e2 (walk_range.mono (fun _ h => h) fun i H x H' _ _ y => ?_) fun _ _ => True.intro
    obtain ⟨h1, h2⟩ := y
    exact ⟨h1, h2.trans (congrArg V.int (Int.zero_add _))⟩⟩
theorem iw_zip (h : EvAP ta σ H fun vs H1 => ∃ a b, vs = [.ref a, .ref b] ∧ SqL K H1 a xs ∧ SqL K H1 b ys) {n : Nat} (hn : n = min xs.length ys.length) : IW (iZip K ta) σ H n (YPair (fun i => xs[i]?) fun i => ys[i]?) := fun H1 e Rq q =>
  h H1 e _ fun vs H2 e2 ⟨a, b, ev, ha, hb⟩ => ⟨a, b, xs, ys, ev, ha, hb, q _ _ H2 e2 (walk_zip hn) fun H3 e3 => ⟨ex_l e3 ha, ex_l e3 hb⟩⟩
theorem iw_enum (h : EvA ta σ H [.ref a]) (hx : SqL K H a xs) : IW (iEnum K ta) σ H xs.length (YPair (fun i => some (.int (i : Nat))) fun i => xs[i]?) := fun H1 e Rq q =>
  h H1 e _ fun H2 e2 => ⟨a, xs, rfl, ex_l (e.trans e2) hx, q _ _ H2 e2 walk_enum fun H3 e3 => ex_l ((e.trans e2).trans e3) hx⟩
end

/-! ### targets keep what follows -/
def TGm (g : TG) : Prop := ∀ x σ H (Q Q' : L2.St → Hp → Prop), (∀ σ2 H2, Q σ2 H2 → Q' σ2 H2) → g x σ H Q → g x σ H Q'
theorem tgm_name (i : Nat) : TGm (gName i) := fun _ _ _ _ _ k h => k _ _ h
def TGsm (g : TGs) : Prop := ∀ x σ H (Q Q' : L2.St → Hp → Prop), (∀ σ2 H2, Q σ2 H2 → Q' σ2 H2) → g x σ H Q → g x σ H Q'
theorem tgsm_nil : TGsm gNil := fun _ _ _ _ _ k ⟨e, h⟩ => ⟨e, k _ _ h⟩
theorem tgsm_cons {g : TG} {gs : TGs} (h1 : TGm g) (h2 : TGsm gs) : TGsm (gCons g gs) := fun x σ H Q Q' k ⟨v, r, e, h⟩ => ⟨v, r, e, h1 _ _ _ _ _ (fun σ2 H2 q => h2 _ _ _ _ _ k q) h⟩
theorem tgm_tup {K : PySem.W.Frag} {n : Nat} {gs : TGs} (h : TGsm gs) : TGm (gTup K n gs) := fun x σ H Q Q' k ⟨a, xs, e, hs, hl, q⟩ => ⟨a, xs, e, hs, hl, h _ _ _ _ _ k q⟩
/-- two names, from a pair at T -/
theorem g_pair {K : PySem.W.Frag} {σ : L2.St} {H : Hp} {i j : Nat} {T : Addr} {x y : V} {Q : L2.St → Hp → Prop} (hT : H T = some (.tup [x, y])) (q : Q ((σ.set i (some x)).set j (some y)) H) : gTup K 2 (gCons (gName i) (gCons (gName j) gNil)) (.ref T) σ H Q :=
  ⟨T, [x, y], rfl, st_of hT, rfl, x, [y], rfl, y, [], rfl, rfl, q⟩
/-- a name, then two names from a pair -/
theorem g_pair3 {K : PySem.W.Frag} {σ : L2.St} {H : Hp} {i j k : Nat} {T U : Addr} {x y z : V} {Q : L2.St → Hp → Prop} (hT : H T = some (.tup [x, .ref U])) (hU : H U = some (.tup [y, z])) (q : Q (((σ.set i (some x)).set j (some y)).set k (some z)) H) :
    gTup K 2 (gCons (gName i) (gCons (gTup K 2 (gCons (gName j) (gCons (gName k) gNil))) gNil)) (.ref T) σ H Q :=
  ⟨T, [x, .ref U], rfl, st_of hT, rfl, x, [.ref U], rfl, .ref U, [], rfl, U, [y, z], rfl, st_of hU, rfl, y, [z], rfl, z, [], rfl, rfl, rfl, q⟩

/-! ### comprehensions -/
theorem ep_lc {α : Type} {R : Hp → α → V → Hp → Prop} {n : Nat} {f : Nat → Bool} {d : Nat → α} {wi : TI} {g : TG} {tt : TT} {te : TE} {vs : List Nat} {σ : L2.St} {H : Hp} {Y : Nat → Hp → V → Hp → Prop}
    (hw : IW wi σ H n Y) (hn : n ≤ 100000) (gm : TGm g) (m : ∀ G, Mono (R G)) (off : ∀ G D, ¬ G D = none → Off (R G) D)
    (ht : ∀ (i : Nat) x G H1 H2, i < n → Ex H H1 → (∀ p, H1 p = none → G p = none) → Y i H1 x H2 →
      g x (wipe σ vs) H2 fun σ2 H3 => wipe σ2 vs = wipe σ vs ∧ Ex H1 H3 ∧ EvT tt σ2 H3 (f i) ∧ (f i = true → EvP te σ2 H3 (R G (d i)))) :
    EvP (tLc wi g tt te vs) σ H fun v H' => ∃ p G, v = .ref p ∧ H p = none ∧ Ex H G ∧ RepL (R G) H' p (givenD n f d) := fun H1 e Q q =>
  hw H1 e _ fun J Gd H2 e2 wk hG D hD =>
    lc_it wk (fun i H' => CwP (R (upd H2 D (.lst []))) H2 f d D i H') ⟨hD, Ex.new hD, rep_upd_nil⟩ (fun i H' _ p => hG H' p.2.1)
      (fun i x H3 H4 hi p y => by
        have e3 : Ex H H3 := (e.trans e2).trans p.2.1
        refine gm _ _ _ _ _ ?_ (ht i x (upd H2 D (.lst [])) H3 H4 hi e3 (fun r hr => ?_) y)
        · rintro σ2 H5 ⟨h1, h2, h3, h4⟩
          exact ⟨h1, cwp_turn (m _) (off _ D (by rw [upd_same]; exact fun z => nomatch z)) p h2 (by omega) h3 h4⟩
        · obtain ⟨vs', hv, _⟩ := p.2.2
          rw [upd_ne (fun z => by rw [z, hv] at hr; cases hr)]
          exact fresh_back p.2.1 hr)
      (fun H' p => q _ H' (e2.trans p.2.1) ⟨D, _, rfl, fresh_back (e.trans e2) hD, (e.trans e2).trans (Ex.new hD), p.2.2⟩)
/-- the same where what the items stand for leans on no list that the comprehension makes -/
theorem ep_lcC {α : Type} {R : α → V → Hp → Prop} {n : Nat} {f : Nat → Bool} {d : Nat → α} {wi : TI} {g : TG} {tt : TT} {te : TE} {vs : List Nat} {σ : L2.St} {H : Hp} {Y : Nat → Hp → V → Hp → Prop}
    (hw : IW wi σ H n Y) (hn : n ≤ 100000) (gm : TGm g) (m : Mono R) (off : ∀ D, Off R D)
    (ht : ∀ (i : Nat) x H1 H2, i < n → Ex H H1 → Y i H1 x H2 →
      g x (wipe σ vs) H2 fun σ2 H3 => wipe σ2 vs = wipe σ vs ∧ Ex H1 H3 ∧ EvT tt σ2 H3 (f i) ∧ (f i = true → EvP te σ2 H3 (R (d i)))) :
    EvP (tLc wi g tt te vs) σ H fun v H' => ∃ p, v = .ref p ∧ H p = none ∧ RepL R H' p (givenD n f d) :=
  (ep_lc (R := fun _ => R) hw hn gm (fun _ => m) (fun _ D _ => off D) fun i x _ H1 H2 hi e _ y => ht i x H1 H2 hi e y).imp fun v H1 _ ⟨p, G, h1, h2, _, h3⟩ => ⟨p, h1, h2, h3⟩
theorem et_yes {σ : L2.St} {H : Hp} : EvT tYes σ H true := fun H1 _ _ q => q H1 (Ex.refl H1)

/-! ### for -/
section
variable {wi : TI} {g : TG} {tu tz : TS} {D : Ends} {σ : L2.St} {H : Hp} {n : Nat} {Y : Nat → Hp → V → Hp → Prop}
theorem q_forW (hw : IW wi σ H n Y) (Pv : Hp → Nat → L2.St → Hp → Prop) (h0 : ∀ H1, Ex H H1 → Pv H1 0 σ H1) (hG : ∀ Hb i σ' H', Pv Hb i σ' H' → Ex Hb H')
    (hs : ∀ (i : Nat) x σ' Hb H1 H2, i < n → Ex H Hb → Pv Hb i σ' H1 → Y i H1 x H2 → g x σ' H2 fun σ2 H3 => tu { D with nx := Pv Hb (i + 1), ct := Pv Hb (i + 1), bk := tz D } σ2 H3)
    (hd : ∀ σ' Hb H', Ex H Hb → Pv Hb n σ' H' → tz D σ' H') : tSeq (tFor wi g tu) tz D σ H :=
  hw H (Ex.refl H) _ fun J G H2 e2 wk hg => for_it (D := { D with nx := tz D }) wk (Pv H2) (h0 H2 e2) (fun i σ' H' _ p => hg H' (hG _ _ _ _ p)) (fun i x σ' H3 H4 hi p y => hs i x σ' H2 H3 H4 hi e2 p y) fun σ' H' p => hd σ' H2 H' e2 p
end
end Reh
end RdWalks
section RdStays
/-! stays_in, as_list, stays_told, stay_wrong, cost_of. -/
namespace Reh
open PySem PySem.Spec PyProof.Rows L2 Evl
section
variable {P : Program} {w : World} {K : PySem.W.Frag} {mg : Str → Option Value} {base : Heap} {cP cC cS cD : Addr}
/-! ### stays_in -/
def spStaysIn (cC cS : Addr) : Sp := fun vs H Q _ => ∃ (pp po : Addr) (d : Uw03.Day) (o : List Nat) (m : Nat), vs = [.ref pp, .ref po, .int (m : Int)] ∧ RepL (RPc cC) H pp d.pieces ∧ H po = some (.lst (vi o)) ∧ (∀ x ∈ o, x < d.pieces.length) ∧ m ≤ 6 ∧
  ∀ p H', H p = none → Ex H H' → RepL (RSy cS) H' p ((List.range m).map (syIn d o)) → Q (.ref p) H'
abbrev nStaysIn : List Str := ["pieces", "order", "many", "player"]
theorem sc_stays_in : FnScope nStaysIn ["pieces", "order", "many"] (defScope xStaysIn) := ⟨rfl, rfl, rfl, by decide +kernel, rfl, by decide +kernel, by decide +kernel⟩
theorem sp_stay_in {H : Hp} {pp po : Addr} {d : Uw03.Day} {o : List Nat} {a : Nat} (h1 : RepL (RPc cC) H pp d.pieces) (h2 : H po = some (.lst (vi o))) (h3 : ∀ x ∈ o, x < d.pieces.length) : SpP (spStayIn cC cS) [.ref pp, .ref po, .int (a : Int)] H (RSy cS (syIn d o a)) :=
  fun H1 e Q q E => ⟨pp, po, d, o, a, rfl, h1.mono mono_pc e, e _ _ h2, h3, fun v H' e' hv => q v H' e' hv⟩
theorem ok_stays_in {f : Addr} {fd : FuncData} (F : Fun K "stays_in" "stays_in" xStaysIn f fd) (T : Txt K mg cP cC cS cD) (c1 : Cal P w K mg base "stay_in" 3 ["pieces", "order", "player"] (spStayIn cC cS)) :
    FnOk P w K mg base CX0 4 f fd ["pieces", "order", "many"] (spStaysIn cC cS) := by
  refine F.ok sc_stays_in (fun vs H Q E h => ?_) (fun cdv A outer s H vs Q E hr h => ?_)
  · obtain ⟨pp, po, d, o, m, rfl, _⟩ := h
    rfl
  · obtain ⟨pp, po, d, o, m, rfl, hpc, ho, hlt, hm, q⟩ := h
    have nd := sc_stays_in.nd
    refine ⟨_, pss_one (ps_ret (pe_lc (own := [("player", 3)]) (g := gName 3) (tt := tYes) rfl nd (pi_range1 rfl T.zRange (pa_cons (pv 2) pa_nil)) (blkOk_by (N := nStaysIn) (sc := defScope xStaysIn) (by decide +kernel))
      (fun _ _ _ _ _ => pg_name (i := 3) nd rfl (Or.inl rfl)) (fun _ _ _ _ _ => pts_nil) (fun _ _ _ _ _ => pe_cal c1 hr (pa_cons (pv 0) (pa_cons (pv 1) (pa_cons (pv 3) pa_nil)))))), ?_⟩
    refine s_retP (ep_lcC (R := RSy cS) (n := m) (f := fun _ => true) (d := syIn d o) (iw_rng (ea_cons (ev_var rfl) ea_nil) (by omega)) (by omega) (tgm_name 3) mono_sy (fun _ => off_sy) (fun i x H1 H2 hi e1 y => ?_)) (fun v H1 e1 ⟨p, h1, h2, h3⟩ => ?_)
    · obtain ⟨rfl, rfl⟩ := y
      exact ⟨rfl, Ex.refl _, et_yes, fun _ => ep_call (ea_cons (ev_var rfl) (ea_cons (ev_var rfl) (ea_cons (ev_var rfl) ea_nil))) (sp_stay_in (hpc.mono mono_pc e1) (e1 _ _ ho) hlt)⟩
    · subst h1
      rw [givenD_all] at h3
      exact q p H1 h2 e1 h3

/-! ### as_list -/
theorem el_catS {ta tb : TE} {σ : L2.St} {H : Hp} {xs ys : List V} (ha : EvP ta σ H (IsL xs)) (hb : ∀ H1, Ex H H1 → EvP tb σ H1 (IsL ys)) (hz : xs.length + ys.length ≤ sizeLine) : EvL (tOp rCat ta tb) σ H (xs ++ ys) :=
  fun H1 e Q q => ha H1 e _ fun x H2 e2 ⟨p, ep, hp⟩ => hb H2 (e.trans e2) H2 (Ex.refl _) _ fun y H3 e3 ⟨p', ep', hp'⟩ =>
    ⟨p, p', xs, ys, ep, ep', e3 _ _ hp, hp', hz, fun n hn => q n _ (fresh_back (e2.trans e3) hn) ((e2.trans e3).trans (Ex.new hn)) upd_same⟩
def spAsList : Sp := fun vs H Q _ => ∃ (a : Addr) (xs : List V), vs = [.ref a] ∧ H a = some (.lst xs) ∧ xs.length ≤ 2000000 ∧ ∀ p H', H p = none → Ex H H' → H' p = some (.lst (.int (xs.length : Int) :: xs)) → Q (.ref p) H'
theorem sc_as_list : FnScope ["some"] ["some"] (defScope xAsList) := ⟨rfl, rfl, rfl, by decide +kernel, rfl, by decide +kernel, by decide +kernel⟩
theorem ok_as_list {f : Addr} {fd : FuncData} (F : Fun K "as_list" "as_list" xAsList f fd) (T : Txt K mg cP cC cS cD) : FnOk P w K mg base CX0 1 f fd ["some"] spAsList := by
  refine F.ok sc_as_list (fun vs H Q E h => ?_) (fun cdv A outer s H vs Q E hr h => ?_)
  · obtain ⟨a, xs, rfl, _⟩ := h
    rfl
  · obtain ⟨a, xs, rfl, ho, hz, q⟩ := h
    refine ⟨_, pss_one (ps_ret (pe_op op_cat (pe_lst (pa_cons (pe_callB call_len_seq (by rfl) T.zLen PySem.boot_len (pa_cons (pv 0) pa_nil)) pa_nil)) (pv 0))), ?_⟩
    exact s_retL (el_catS (ep_ofL (el_lst (ea_cons (ev_len (ev_var rfl) (sq_of ho)) ea_nil) (by show 1 ≤ 100000; decide))) (fun H1 e1 => ep_ref (ev_var rfl) (e1 _ _ ho)) (Nat.le_trans (m := 2000001) (by show 1 + xs.length ≤ 2000001; omega) (by decide))) q
theorem sp_as_list {H : Hp} {a : Addr} {xs : List V} (h : H a = some (.lst xs)) (hz : xs.length ≤ 2000000) : SpP spAsList [.ref a] H (IsL (.int (xs.length : Int) :: xs)) :=
  fun H1 e Q q E => ⟨a, xs, rfl, e _ _ h, hz, fun p H' _ e' h' => q _ H' e' ⟨p, rfl, h'⟩⟩
/-- as_list of an expression -/
theorem ep_as_list {te : TE} {σ : L2.St} {H : Hp} {xs : List V} (h : EvP te σ H (IsL xs)) (hz : xs.length ≤ 2000000) : EvP (tCall spAsList [] E0 (tCons te tNil)) σ H (IsL (.int (xs.length : Int) :: xs)) :=
  ep_callP (eap_one h) fun vs H1 e ⟨v, ev, a, ea, ha⟩ => by
    subst ev ea
    exact sp_as_list ha hz

/-! ### stays_told -/
def told1 (s : Option Sy) : List Nat := (syTold s).length :: syTold s
def toldAll (ss : List (Option Sy)) : List Nat := ss.flatMap told1
theorem toldAll_len : ∀ ss : List (Option Sy), (toldAll ss).length ≤ 4 * ss.length
  | [] => Nat.le_refl _
  | s :: ss => by
    have h := toldAll_len ss
    have h1 : (told1 s).length ≤ 4 := match s with
      | none => show 1 ≤ 4 by decide
      | some _ => Nat.le_refl 4
    show (told1 s ++ toldAll ss).length ≤ _
    rw [List.length_append, List.length_cons]
    omega
theorem toldAll_snoc (ss : List (Option Sy)) (s : Option Sy) : toldAll (ss ++ [s]) = toldAll ss ++ told1 s := by
  unfold toldAll
  rw [List.flatMap_append, List.flatMap_singleton]
def spStaysTold (cS : Addr) : Sp := fun vs H Q _ => ∃ (a : Addr) (ss : List (Option Sy)), vs = [.ref a] ∧ RepL (RSy cS) H a ss ∧ (∀ s, some s ∈ ss → SyOk s) ∧ ss.length ≤ 6 ∧ ∀ p H', H p = none → Ex H H' → H' p = some (.lst (vi (toldAll ss))) → Q (.ref p) H'
abbrev nStaysTold : List Str := ["stays", "found", "stay"]
theorem sc_stays_told : FnScope nStaysTold ["stays"] (defScope xStaysTold) := ⟨rfl, rfl, rfl, by decide +kernel, rfl, by decide +kernel, by decide +kernel⟩
theorem sp_numbers {H : Hp} {a : Addr} {s : Sy} (h : SyAt cS H a s) (ok : SyOk s) : SpP (spNumbers cS) [.ref a] H (IsL (vi (syNums s))) :=
  fun H1 e Q q E => ⟨a, s, rfl, h.mono e, ok, fun p H' _ e' h' => q _ H' e' ⟨p, rfl, h'⟩⟩
theorem ok_stays_told {f : Addr} {fd : FuncData} (F : Fun K "stays_told" "stays_told" xStaysTold f fd) (T : Txt K mg cP cC cS cD) (c1 : CalM P w K mg base cS "numbers" 2 ["self"] (spNumbers cS)) (c2 : Cal P w K mg base "as_list" 1 ["some"] spAsList) :
    FnOk P w K mg base CX0 3 f fd ["stays"] (spStaysTold cS) := by
  refine F.ok sc_stays_told (fun vs H Q E h => ?_) (fun cdv A outer s H vs Q E hr h => ?_)
  · obtain ⟨a, ss, rfl, _⟩ := h
    rfl
  · obtain ⟨a, ss, rfl, hss, hok, hlen, q⟩ := h
    have nd := sc_stays_told.nd
    obtain ⟨ws, hws, hwl, hwr⟩ := id hss
    refine ⟨_, pss_cons (ps_set (i := 1) nd rfl (.inl rfl) (pe_lst pa_nil))
      (pss_cons (ps_for PassesOwn.never rfl (pi_list (pv 0)) (pg_name (i := 2) nd rfl (.inl rfl))
        (pss_one (ps_if (pt_cmpR op_isN (pv 2) pe_non (nomark _))
          (pss_one (ps_expr (pe_bm PySem.F.plainAttrs_list PySem.F.slot_list_append PySem.F.type_list_append (mt_append (X := _)) (pv 1) (pa_cons pe_int pa_nil))))
          (pss_one (ps_expr (pe_bm PySem.F.plainAttrs_list PySem.F.slot_list_extend PySem.F.type_list_extend mt_extend (pv 1) (pa_cons (pe_cal c2 (hr.mono (by decide)) (pa_cons (pe_calm0 (pv 2) T.clS c1 hr) pa_nil)) pa_nil)))))))
      (pss_one (ps_ret (pv 1)))), ?_⟩
    refine q_asgL (el_lst ea_nil (by decide)) fun pf H1 hpf e1 h1 => ?_
    refine q_forLn (K := K) (a := a) (xs := ws) (ev_var rfl) (sq_of (e1 _ _ hws)) (fun i σ H' => ∃ y2 : Option V, σ = [some (.ref a), some (.ref pf), y2] ∧ Ex H H' ∧ H' pf = some (.lst (vi (toldAll (ss.take i)))))
      (fun H2 e2 => ⟨none, rfl, e1.trans e2, e2 _ _ h1⟩) (fun i σ' H' _ ⟨_, _, e, _⟩ => sq_of (e _ _ hws)) ?_ ?_
    · rintro i x σ' H' hx ⟨y2, rfl, e, hf⟩
      obtain ⟨s1, hs1, hr1⟩ := hss.get' hws hx
      have step : toldAll (ss.take (i + 1)) = toldAll (ss.take i) ++ told1 s1 := by
        rw [List.take_add_one, hs1]
        exact toldAll_snoc _ _
      have hil : i < ss.length := (List.getElem?_eq_some_iff.mp hs1).1
      have hfl : (vi (toldAll (ss.take i))).length ≤ 24 := by
        rw [vi_len]
        have := toldAll_len (ss.take i)
        rw [List.length_take] at this
        omega
      refine s_if (et_test (ev_op (ev_var rfl) ev_c rv_isN)) (fun hN H2 e2 => ?_) (fun hN H2 e2 => ?_)
      · have hvn : x = .non := of_decide_eq_true hN
        cases s1 with
        | some s1 =>
          obtain ⟨_, _, z, _⟩ := hr1
          rw [hvn] at z
          cases z
        | none =>
          refine s_app (e2 _ _ hf) (ev_var rfl) ev_c (by omega) fun H3 e3 => ⟨_, rfl, Ex.mut ((e.trans e2).trans e3) hpf, ?_⟩
          rw [upd_same, step, vi_app]
          rfl
      · have hvn : ¬ x = .non := of_decide_eq_false hN
        cases s1 with
        | none => exact absurd hr1 hvn
        | some s1 =>
          obtain ⟨a1, dx1, rfl, ha1⟩ := hr1
          have at1 : SyAt cS H2 a1 s1 := ⟨dx1, e2 _ _ (e _ _ ha1)⟩
          obtain ⟨dx2, ha2⟩ := id at1
          refine s_ext (e2 _ _ hf) (ev_var rfl) (ep_as_list (ep_meth (ev_var rfl) ha2 (f3_none (by decide +kernel) (by decide +kernel) (by decide +kernel)) ea_nil (sp_numbers at1 (hok s1 (List.mem_of_getElem? hs1)))) (by show 3 ≤ 2000000; decide)) ?_ fun H3 e3 => ⟨_, rfl, Ex.mut ((e.trans e2).trans e3) hpf, ?_⟩
          · exact Nat.le_trans (Nat.add_le_add_right hfl _) (by show 24 + 4 ≤ sizeLine; decide)
          · rw [upd_same, step, vi_app]
            rfl
    · rintro σ' H' ⟨y2, rfl, e, hf⟩
      rw [hwl, List.take_length] at hf
      exact s_ret (ev_var rfl) fun H1 e1 => q pf H1 hpf (e.trans e1) (e1 _ _ hf)

/-! ### stay_wrong -/
def spStayWrong (cP cS : Addr) : Sp := fun vs H Q _ => ∃ (v1 v2 : V) (p : Uw03.Player) (s : Option Sy), vs = [v1, v2] ∧ RPl cP p v1 H ∧ RSy cS s v2 H ∧ ∀ H', Ex H H' → Q (.int (kindOf p s : Nat)) H'
theorem sc_stay_wrong : FnScope ["player", "stay"] ["player", "stay"] (defScope xStayWrong) := ⟨rfl, rfl, rfl, by decide +kernel, rfl, by decide +kernel, by decide +kernel⟩
theorem ok_stay_wrong {f : Addr} {fd : FuncData} (F : Fun K "stay_wrong" "stay_wrong" xStayWrong f fd) (T : Txt K mg cP cC cS cD) : FnOk P w K mg base CX0 1 f fd ["player", "stay"] (spStayWrong cP cS) := by
  refine F.ok sc_stay_wrong (fun vs H Q E h => ?_) (fun cdv A outer s H vs Q E hr h => ?_)
  · obtain ⟨v1, v2, p, s, rfl, _⟩ := h
    rfl
  · obtain ⟨v1, v2, p, s, rfl, ⟨a, dx, rfl, ha⟩, hs, q⟩ := h
    refine ⟨_, pss_cons (ps_if (pt_cmpR op_isN (pv 1) pe_non (nomark _)) (pss_one (ps_ret pe_int)) pss_nil)
      (pss_cons (ps_if (pt_cmpR op_lt (pe_fld (pv 1) rfl) (pe_fld (pv 0) rfl) (nomark _)) (pss_one (ps_ret (pe_gv T.vEarly))) pss_nil)
      (pss_cons (ps_if (pt_cmpR op_gt (pe_fld (pv 1) rfl) (pe_fld (pv 0) rfl) (nomark _)) (pss_one (ps_ret (pe_gv T.vLate))) pss_nil)
      (pss_one (ps_ret pe_int)))), ?_⟩
    refine q_when (et_test (ev_op (ev_var rfl) ev_c rv_isN)) (fun hN H1 e1 => ?_) (fun hN H1 e1 => ?_)
    · have hvn : v2 = .non := of_decide_eq_true hN
      cases s with
      | none => exact s_ret ev_c fun H2 e2 => q H2 (e1.trans e2)
      | some s =>
        obtain ⟨_, _, z, _⟩ := hs
        rw [hvn] at z
        cases z
    · have hvn : ¬ v2 = .non := of_decide_eq_false hN
      cases s with
      | none => exact absurd hs hvn
      | some s =>
        obtain ⟨b, dxb, rfl, hb⟩ := hs
        have ha1 := e1 _ _ ha
        have hb1 := e1 _ _ hb
        have k0 : kindOf p (some s) = if s.comes < p.from_ then 2 else if p.till < s.goes then 3 else 0 := rfl
        rw [k0] at q
        refine q_when (et_test (ev_op (ev_fld (ev_var rfl) hb1 T.clS T.sCo fS_co) (ev_fld (ev_var rfl) ha1 T.clP T.pSince fP_since) rv_I0)) (fun hc H2 e2 => ?_) (fun hc H2 e2 => ?_)
        · have c : s.comes < p.from_ := by have := of_decide_eq_true hc; omega
          rw [if_pos c] at q
          exact s_ret ev_c fun H3 e3 => q H3 ((e1.trans e2).trans e3)
        · have c : ¬ s.comes < p.from_ := by have := of_decide_eq_false hc; omega
          rw [if_neg c] at q
          refine q_when (et_test (ev_op (ev_fld (ev_var rfl) (e2 _ _ hb1) T.clS T.sGo fS_go) (ev_fld (ev_var rfl) (e2 _ _ ha1) T.clP T.pTill fP_till) rv_I0)) (fun hc2 H3 e3 => ?_) (fun hc2 H3 e3 => ?_)
          · have c2 : p.till < s.goes := by have := of_decide_eq_true hc2; omega
            rw [if_pos c2] at q
            exact s_ret ev_c fun H4 e4 => q H4 (((e1.trans e2).trans e3).trans e4)
          · have c2 : ¬ p.till < s.goes := by have := of_decide_eq_false hc2; omega
            rw [if_neg c2] at q
            exact s_ret ev_c fun H4 e4 => q H4 (((e1.trans e2).trans e3).trans e4)
end
end Reh
end RdStays
section RdCost
/-! cost_of, pair_behind. -/
namespace Reh
open PySem PySem.Spec PyProof.Rows L2 Evl
section
variable {P : Program} {w : World} {K : PySem.W.Frag} {mg : Str → Option Value} {base : Heap} {cP cC cS cD : Addr}
/-- all players' stays in an order -/
def staysOf (d : Uw03.Day) (o : List Nat) : List (Option Sy) := (List.range d.players.length).map (syIn d o)
theorem staysOf_len (d : Uw03.Day) (o : List Nat) : (staysOf d o).length = d.players.length := by
  unfold staysOf
  rw [List.length_map, List.length_range]
theorem staysOf_get {d : Uw03.Day} {o : List Nat} {i : Nat} (h : i < d.players.length) : (staysOf d o)[i]? = some (syIn d o i) := by
  unfold staysOf
  rw [List.getElem?_map, List.getElem?_range h]
  rfl
theorem staysOf_ok {d : Uw03.Day} {o : List Nat} {s : Sy} (h : some s ∈ staysOf d o) : SyOk s := by
  obtain ⟨i, _, e⟩ := List.mem_map.mp h
  exact syIn_ok e

/-! ### cost_of -/
abbrev rNN : R2 := fun x y H Q => y = .non ∧ Q (.bl (!decide (x = .non))) H
abbrev rMu : R2 := rI CMul fun i j => .int (i * j)
def spCostOf (cP cS : Addr) : Sp := fun vs H Q _ => ∃ (pp ps : Addr) (d : Uw03.Day) (o : List Nat), vs = [.ref pp, .ref ps] ∧ RepL (RPl cP) H pp d.players ∧ RepL (RSy cS) H ps (staysOf d o) ∧ d.players.length ≤ 6 ∧ (∀ p ∈ d.players, p.rate ≤ 1000) ∧
  ∀ H', Ex H H' → Q (.int (d.cost o : Nat)) H'
abbrev nCostOf : List Str := ["players", "stays", "player", "stay"]
theorem sc_cost_of : FnScope nCostOf ["players", "stays"] (defScope xCostOf) := ⟨rfl, rfl, rfl, by decide +kernel, rfl, by decide +kernel, by decide +kernel⟩
theorem zi_map {g : Nat → Nat} (l : List Nat) : zi (l.map g) = l.map fun i => (g i : Int) := by
  unfold zi
  rw [List.map_map]
  rfl
theorem ev_sum {te : TE} {σ : L2.St} {H : Hp} {l : List Nat} (h : EvP te σ H (IsL (vi l))) : Ev (tCB (rSum K) (tCons te tNil)) σ H (.int (zi l).sum) := fun H1 e Q q =>
  h H1 e _ fun v H2 e2 ⟨a, ev, ha⟩ => ⟨a, zi l, by rw [ev], sq_of (by rw [← vi_zi]; exact ha), q H2 e2⟩
theorem ok_cost_of {f : Addr} {fd : FuncData} (F : Fun K "cost_of" "cost_of" xCostOf f fd) (T : Txt K mg cP cC cS cD) (c1 : CalM P w K mg base cS "there" 1 ["self"] (spThere cS)) :
    FnOk P w K mg base CX0 2 f fd ["players", "stays"] (spCostOf cP cS) := by
  refine F.ok sc_cost_of (fun vs H Q E h => ?_) (fun cdv A outer s H vs Q E hr h => ?_)
  · obtain ⟨pp, ps, d, o, rfl, _⟩ := h
    rfl
  · obtain ⟨pp, ps, d, o, rfl, hpl, hst, hn, hrate, q⟩ := h
    have nd := sc_cost_of.nd
    obtain ⟨pws, hp1, hp2, hp3⟩ := id hpl
    obtain ⟨sws, hs1, hs2, hs3⟩ := id hst
    rw [staysOf_len] at hs2
    refine ⟨_, pss_one (ps_ret (pe_callB (cr_sum rfl) (by rfl) T.zSum (by decide +kernel) (pa_cons (by exact pe_lc (own := [("player", 2), ("stay", 3)]) (g := gTup K 2 (gCons (gName 2) (gCons (gName 3) gNil))) (tt := tTest (tOp rNN (tVar 3) (tC .non))) (te := tOp rMu (tFld K (tVar 2) "cost") (tMeth cS "there" (spThere cS) [] E0 (tVar 3) tNil)) rfl nd (pi_zip (by rfl) T.zZip (pa_cons (pv 0) (pa_cons (pv 1) pa_nil))) (blkOk_by (N := nCostOf) (sc := defScope xCostOf) (by decide +kernel)) (fun _ _ _ _ _ => pg_tup rfl (pgs_cons (pg_name (i := 2) nd rfl (Or.inl rfl)) (pgs_cons (pg_name (i := 3) nd rfl (Or.inl rfl)) pgs_nil))) (fun _ _ _ _ _ => pts_one (pt_cmpR op_notN (pv 3) pe_non (nomark _))) (fun _ _ _ _ _ => pe_op op_mul (pe_fld (pv 2) rfl) (pe_calm0 (pv 3) T.clS c1 hr))) pa_nil))), ?_⟩
    have key := cost_sum d o
    refine s_ret (ev_is (ev_sum (l := givenD d.players.length (fun i => (syIn d o i).isSome) (costAt d o)) ((ep_lcC (R := RInt) (iw_zip (n := d.players.length) (xs := pws) (ys := sws) (fun H1 e Q q => (ea_cons (ev_var rfl) (ea_cons (ev_var rfl) ea_nil)) H1 e Q fun H2 e2 => q _ H2 e2 ⟨pp, ps, rfl, sq_of (e2 _ _ (e _ _ hp1)), sq_of (e2 _ _ (e _ _ hs1))⟩) (by omega)) (by omega) (tgm_tup (tgsm_cons (tgm_name 2) (tgsm_cons (tgm_name 3) tgsm_nil))) mono_int (fun _ => off_int) (fun i x H1 H2 hi e1 y => ?_)).imp fun v H1 _ ⟨p, h1, _, h3⟩ => ⟨p, h1, rep_int.mp h3⟩)) ?_) q
    · obtain ⟨T', x1, x2, rfl, hT, rfl, hx1, hx2⟩ := y
      have eT := Ex.new (o := .tup [x1, x2]) hT
      obtain ⟨a1, dx1, rfl, ha1⟩ := hp3 i _ _ (List.getElem?_eq_getElem hi) hx1
      have hy := hs3 i _ _ (staysOf_get hi) hx2
      refine g_pair upd_same ⟨rfl, eT, ?_, fun hf => ?_⟩
      · refine et_is (et_test (ev_op (ev_var rfl) ev_c rv_notN)) ?_
        cases z : syIn d o i with
        | none =>
          rw [z] at hy
          rw [show x2 = .non from hy]
          rfl
        | some s =>
          rw [z] at hy
          obtain ⟨_, _, rfl, _⟩ := hy
          rfl
      · cases z : syIn d o i with
        | none => rw [z] at hf; cases hf
        | some s =>
          rw [z] at hy
          obtain ⟨a2, dx2, rfl, ha2⟩ := hy
          have at2 : SyAt cS (upd H1 T' (.tup [.ref a1, .ref a2])) a2 s := ⟨dx2, eT _ _ (e1 _ _ ha2)⟩
          have pm : d.players[i]? = some d.players[i] := List.getElem?_eq_getElem hi
          have hr1 := hrate _ (List.mem_of_getElem? pm)
          refine ep_of (ev_is (ev_op (ev_fld (ev_var rfl) (eT _ _ (e1 _ _ ha1)) T.clP T.pCost fP_cost) (ev_of (ep_meth (ev_var rfl) (eT _ _ (e1 _ _ ha2)) (f3_none (by decide +kernel) (by decide +kernel) (by decide +kernel)) ea_nil (sp_there at2 (syIn_ok z))) fun v _ _ e => e) (rv_I (.inl ⟨by omega, by omega⟩))) ?_) fun _ _ => rfl
          refine congrArg V.int ?_
          unfold costAt
          rw [pm, z]
          show (d.players[i].rate : Int) * ((s.goes - s.comes : Nat) : Int) = ((d.players[i].rate * (s.goes - s.comes) : Nat) : Int)
          exact (Int.natCast_mul _ _).symm
    · refine congrArg V.int ?_
      rw [← key]
      unfold givenD
      rw [zi_map]

/-! ### pair_behind -/
def spPairBehind : Sp := fun vs H Q _ => ∃ (pr po : Addr) (ah : List (Nat × Nat)) (o : List Nat), vs = [.ref pr, .ref po] ∧ RepL RPr H pr ah ∧ H po = some (.lst (vi o)) ∧ o.Nodup ∧ o.length ≤ 6 ∧ (∀ x ∈ ah, x.1 ∈ o ∧ x.2 ∈ o) ∧ ah.length ≤ 50000 ∧
  ∀ v H', Ex H H' → v = (match ah.findIdx? (behind o) with | some i => V.int (i : Nat) | none => .non) → Q v H'
abbrev nPairBehind : List Str := ["pairs", "order", "places", "number", "one", "other", "place", "piece"]
theorem sc_pair_behind : FnScope nPairBehind ["pairs", "order"] (defScope xPairBehind) := ⟨rfl, rfl, rfl, by decide +kernel, rfl, by decide +kernel, by decide +kernel⟩
/-- the pairs that the dict is made of -/
def plKv (o : List Nat) (m : Nat) : List (Key × V) := (List.range m).map fun i => (Sum.inl ((o.getD i 0 : Nat) : Int), V.int (i : Nat))
theorem plKv_get {o : List Nat} (hn : o.Nodup) {x : Nat} (hx : x ∈ o) : ∀ m, m ≤ o.length → valV (mergeK [] (plKv o m)) (Sum.inl (x : Int)) = if o.idxOf x < m then some (V.int (o.idxOf x : Nat)) else none := by
  intro m
  induction m with
  | zero => intro _; rw [if_neg (Nat.not_lt_zero _)]; rfl
  | succ m ih =>
    intro hm
    have e : mergeK [] (plKv o (m + 1)) = putK (mergeK [] (plKv o m)) (Sum.inl ((o.getD m 0 : Nat) : Int)) (V.int (m : Nat)) := by
      unfold mergeK plKv
      rw [List.range_succ, List.map_append, List.foldl_append]
      rfl
    rw [e, valV_put, ih (by omega)]
    have hml : m < o.length := hm
    have eg : o.getD m 0 = o[m] := by rw [List.getD_eq_getElem?_getD, List.getElem?_eq_getElem hml]; rfl
    have hil : o.idxOf x < o.length := List.idxOf_lt_length_of_mem hx
    have hix : o[o.idxOf x] = x := List.getElem_idxOf hil
    by_cases c : x = o.getD m 0
    · have ci : o.idxOf x = m := by
        rw [c, eg]
        exact List.Nodup.idxOf_getElem hn m hml
      rw [if_pos (by rw [← c]), if_pos (by omega), ci]
    · have ci : ¬ o.idxOf x = m := fun z => c (by rw [eg, ← hix]; simp only [z])
      rw [if_neg (fun z => c (by have := Sum.inl.inj z; omega))]
      by_cases c2 : o.idxOf x < m
      · rw [if_pos c2, if_pos (by omega)]
      · rw [if_neg c2, if_neg (by omega)]
theorem pairs_of {H : Hp} : ∀ {xs : List (Nat × Nat)} {vs : List V}, vs.length = xs.length → (∀ (i : Nat) x v, xs[i]? = some x → vs[i]? = some v → RPr x v H) →
    ∃ ps : List Addr, vs = ps.map V.ref ∧ Paired (fun p (kv : Key × V) => SqT K H p [kV kv.1, kv.2]) ps (xs.map fun x => (Sum.inl ((x.1 : Nat) : Int), V.int (x.2 : Nat)))
  | [], [], _, _ => ⟨[], rfl, .nil⟩
  | x :: xs, v :: vs, hl, h => by
    obtain ⟨ps, h1, h2⟩ := pairs_of (xs := xs) (vs := vs) (by simpa using hl) fun i y u a b => h (i + 1) y u a b
    obtain ⟨t, rfl, ht⟩ := h 0 x v rfl rfl
    exact ⟨t :: ps, by rw [h1]; rfl, .cons (st_of ht) h2⟩
theorem ev_dget {td ty : TE} {σ : L2.St} {H : Hp} {a : Addr} {kvs : List (Key × V)} {k : Int} {v : V} (h : Ev td σ H (.ref a)) (hk : Ev ty σ H (.int k)) (ha : H a = some (.dK kvs)) (hv : valV kvs (Sum.inl k) = some v) : Ev (tDGet td ty) σ H v := fun H1 e Q q =>
  h H1 e _ fun H2 e2 => hk H2 (e.trans e2) _ fun H3 e3 => ⟨a, v, rfl, by rw [← hv]; exact DGet.k (k := Sum.inl k) (e3 _ _ (e2 _ _ (e _ _ ha))), q H3 (e2.trans e3)⟩
theorem ok_pair_behind {f : Addr} {fd : FuncData} (F : Fun K "pair_behind" "pair_behind" xPairBehind f fd) (T : Txt K mg cP cC cS cD) : FnOk P w K mg base CX0 1 f fd ["pairs", "order"] spPairBehind := by
  refine F.ok sc_pair_behind (fun vs H Q E h => ?_) (fun cdv A outer s H vs Q E hr h => ?_)
  · obtain ⟨pr, po, ah, o, rfl, _⟩ := h
    rfl
  · obtain ⟨pr, po, ah, o, rfl, hah, ho, hnd, hol, hin, hal, q⟩ := h
    have nd := sc_pair_behind.nd
    obtain ⟨aws, ha1, ha2, ha3⟩ := id hah
    refine ⟨_, pss_cons (ps_set (i := 2) nd rfl (.inl rfl) (pe_callTy (call_dictP rfl) (by rfl) T.zDict (by decide +kernel) (pa_cons (by exact pe_lc (own := [("place", 6), ("piece", 7)]) (g := gTup K 2 (gCons (gName 6) (gCons (gName 7) gNil))) (tt := tYes) (te := tTup (tCons (tVar 7) (tCons (tVar 6) tNil))) rfl nd (pi_enum (by rfl) T.zEnum (pa_cons (pv 1) pa_nil)) (blkOk_by (N := nPairBehind) (sc := defScope xPairBehind) (by decide +kernel)) (fun _ _ _ _ _ => pg_tup rfl (pgs_cons (pg_name (i := 6) nd rfl (Or.inl rfl)) (pgs_cons (pg_name (i := 7) nd rfl (Or.inl rfl)) pgs_nil))) (fun _ _ _ _ _ => pts_nil) (fun _ _ _ _ _ => pe_tup (pa_cons (pv 7) (pa_cons (pv 6) pa_nil)))) pa_nil)))
      (pss_cons (ps_for PassesOwn.never rfl (pi_enum (by rfl) T.zEnum (pa_cons (pv 0) pa_nil)) (pg_tup rfl (pgs_cons (pg_name (i := 3) nd rfl (Or.inl rfl)) (pgs_cons (pg_tup rfl (pgs_cons (pg_name (i := 4) nd rfl (Or.inl rfl)) (pgs_cons (pg_name (i := 5) nd rfl (Or.inl rfl)) pgs_nil))) pgs_nil)))
        (pss_one (ps_if (pt_cmpR op_gt (pe_dget (hu_of hr) (pv 2) (pv 4) (fun _ _ => rfl)) (pe_dget (hu_of hr) (pv 2) (pv 5) (fun _ _ => rfl)) (nomark _)) (pss_one (ps_ret (pv 3))) pss_nil)))
      (pss_one (ps_ret pe_non))), ?_⟩
    have hmerge : ∀ x ∈ o, valV (mergeK [] (plKv o o.length)) (Sum.inl (x : Int)) = some (V.int (o.idxOf x : Nat)) := fun x hx => by
      rw [plKv_get hnd hx _ (Nat.le_refl _), if_pos (List.idxOf_lt_length_of_mem hx)]
    refine q_asgP (P := fun v H' => ∃ p, v = .ref p ∧ H' p = some (.dK (mergeK [] (plKv o o.length)))) (fun H1 e Q q => (eap_one (ep_lcC (R := RPr) (d := fun i => (o.getD i 0, i)) (f := fun _ => true) (iw_enum (ea_cons (ev_var rfl) ea_nil) (sq_of ho)) (by rw [vi_len]; omega) (tgm_tup (tgsm_cons (tgm_name 6) (tgsm_cons (tgm_name 7) tgsm_nil))) mono_pr (fun _ => off_pr) (fun i x H1 H2 hi e1 y => ?_))) H1 e _ fun vs H2 e2 ⟨v, ev, p, hv, _, hrep⟩ => ?_) fun v H1 e1 ⟨pd, ev, hd⟩ => ?_
    · obtain ⟨T', x1, x2, rfl, hT, rfl, hx1, hx2⟩ := y
      obtain ⟨n, hn, rfl⟩ := vi_of hx2
      cases hx1
      have eT := Ex.new (o := .tup [.int (i : Nat), .int (n : Int)]) hT
      refine g_pair upd_same ⟨rfl, eT, et_yes, fun _ => (el_tup (ea_cons (ev_var rfl) (ea_cons (ev_var rfl) ea_nil)) (by show 2 ≤ 100000; decide)).imp fun v H3 _ ⟨t, h1, h2⟩ => ⟨t, h1, ?_⟩⟩
      rw [h2]
      have eg : o.getD i 0 = n := by rw [List.getD_eq_getElem?_getD, hn]; rfl
      rw [← eg]
    · subst ev
      subst hv
      rw [vi_len, givenD_all] at hrep
      obtain ⟨ws, hw1, hw2, hw3⟩ := hrep
      obtain ⟨ps, hp1, hp2⟩ := pairs_of (K := K) hw2 hw3
      rw [List.map_map] at hp2
      exact ⟨p, ps, plKv o o.length, rfl, sq_of (by rw [← hp1]; exact hw1), hp2, fun r hr2 => q _ _ (e2.trans (Ex.new hr2)) ⟨r, rfl, upd_same⟩⟩
    · subst ev
      refine q_forW (iw_enum (ea_cons (ev_var rfl) ea_nil) (sq_of (e1 _ _ ha1))) (fun Hb i σ' H' => ∃ y3 y4 y5 : Option V, σ' = [some (.ref pr), some (.ref po), some (.ref pd), y3, y4, y5, none, none] ∧ Ex Hb H' ∧ ∀ (j : Nat) (x : Nat × Nat), j < i → ah[j]? = some x → behind o x = false)
        (fun H2 e2 => ⟨none, none, none, rfl, Ex.refl _, fun j x hj => absurd hj (Nat.not_lt_zero j)⟩) (fun Hb i σ' H' ⟨_, _, _, _, e, _⟩ => e) (fun i x σ' Hb H2 H3 hi eb p y => ?_) (fun σ' Hb H' eb p => ?_)
      · obtain ⟨y3, y4, y5, rfl, e, hno⟩ := p
        obtain ⟨T', x1, x2, rfl, hT, rfl, hx1, hx2⟩ := y
        cases hx1
        have eT := Ex.new (o := .tup [.int (i : Nat), x2]) hT
        obtain ⟨z, hz, hzr⟩ := hah.get' ha1 hx2
        obtain ⟨t, rfl, ht⟩ := hzr
        have eAll : Ex H (upd H2 T' (.tup [.int (i : Nat), .ref t])) := ((e1.trans eb).trans e).trans eT
        have ed : Ex H1 (upd H2 T' (.tup [.int (i : Nat), .ref t])) := (eb.trans e).trans eT
        obtain ⟨in1, in2⟩ := hin z (List.mem_of_getElem? hz)
        refine g_pair3 upd_same (eAll _ _ ht) (s_when (et_test (ev_op (ev_dget (ev_var rfl) (ev_var rfl) (ed _ _ hd) (hmerge _ in1)) (ev_dget (ev_var rfl) (ev_var rfl) (ed _ _ hd) (hmerge _ in2)) rv_I0)) (fun hc H4 e4 => ?_) (fun hc H4 e4 => ?_))
        · refine s_ret (ev_var rfl) fun H5 e5 => q _ H5 ((eAll.trans e4).trans e5) ?_
          have c : behind o z = true := by
            have := of_decide_eq_true hc
            exact decide_eq_true (by omega)
          rw [findIdx_some_at hz c fun j y hj hy => hno j y hj hy]
        · refine ⟨_, _, _, rfl, (e.trans eT).trans e4, fun j x hj hx => ?_⟩
          by_cases cj : j < i
          · exact hno j x cj hx
          · have ej : j = i := by omega
            subst ej
            rw [hz] at hx
            cases hx
            have := of_decide_eq_false hc
            exact decide_eq_false (by omega)
      · obtain ⟨y3, y4, y5, rfl, e, hno⟩ := p
        refine s_ret ev_c fun H5 e5 => q _ H5 (((e1.trans eb).trans e).trans e5) ?_
        rw [findIdx_none_at fun j y hy => hno j y (by rw [ha2]; exact (List.getElem?_eq_some_iff.mp hy).1) hy]
end
end Reh
end RdCost
section RdEnum
/-! for i, (x, y) in enumerate(zip(xs, ys)): the walk of an enumerate over a zip. The zip's own pair is held by the enumerate from the first turn on. -/
namespace Reh
open PySem PySem.Spec PyProof.Rows L2
section
variable {prog : Program} {w : World} {A : Around} {E : Value → Shared → Prop} {s : Shared}
/-- the zip's record, whatever its two marks are -/
abbrev ZRec (h : Heap) (z TI TO : Addr) (m0 : Value) (m1 : Bool) : Prop :=
  h.get? z = some { cls := .type "zip", dict := none, data := .fields #[m0, .bool m1, .bool false, .ref TI, .ref TO], slots := #[] }
/-- its pair may be taken again -/
def ZFree (h : Heap) (m0 : Value) : Prop := m0 = .none ∨ ∃ T : Addr, m0 = rawInt T ∧ h.get? T = none
theorem gone_load {a : Addr} {Q : Option Obj → Shared → Prop} (ho : s.heap.get? a = none) (q : Q none s) : wpAny (model prog w) A (loadIfAlive a) Q E s := by
  have q' : Q (s.heap.get? a) s := by rw [ho]; exact q
  exact fun _ _ _ => q'
theorem z_free {z TI TO : Addr} {m0 : Value} {m1 : Bool} {Q : Bool → Shared → Prop} (hz : ZRec s.heap z TI TO m0 m1) (hf : ZFree s.heap m0) (q : Q true s) : wpAny (model prog w) A (Builtin.SmallTypes.ownedTupleIsFree (.ref z)) Q E s := by
  unfold Builtin.SmallTypes.ownedTupleIsFree
  rcases hf with rfl | ⟨T, rfl, hT⟩
  · exact wpAny_bind (wpAny_field hz rfl (x := .none) rfl (wpAny_pure q))
  · refine wpAny_bind (wpAny_field hz rfl (x := rawInt T) rfl ?_)
    show wpAny _ _ (loadIfAlive ((T : Int).toNat) >>= _) _ _ _
    rw [Int.toNat_natCast]
    refine wpAny_bind (gone_load hT ?_)
    rw [if_pos (show (Option.isNone (none : Option Obj)) = true from rfl)]
    exact wpAny_pure q
/-- what stands but for the zip's own four -/
def But4 (z a b c : Addr) (h h' : Heap) : Prop := ∀ r o, r ≠ z → r ≠ a → r ≠ b → r ≠ c → h.get? r = some o → h'.get? r = some o
theorem z_item {z TI TO i1 i2 l1 l2 : Addr} {k1 k2 : Nat} {xs ys : Array Value} {x y a b m0 : Value} {m1 : Bool} {Q : Value → Shared → Prop} (D : ZipApart z TI TO i1 i2 l1 l2) (hf : ZFree s.heap m0)
    (hz : ZRec s.heap z TI TO m0 m1) (hI : IsPair s.heap TI (.ref i1) (.ref i2)) (hO : IsPair s.heap TO a b) (c1 : s.heap.IsListIter i1 l1 k1) (c2 : s.heap.IsListIter i2 l2 k2) (s1 : s.heap.IsList l1 xs) (s2 : s.heap.IsList l2 ys)
    (hx : xs[k1]? = some x) (hy : ys[k2]? = some y)
    (q : ∀ h', ZRec h' z TI TO (rawInt s.heap.objs.size) false → IsPair h' TO x y → h'.IsListIter i1 l1 (k1 + 1) → h'.IsListIter i2 l2 (k2 + 1) → IsPair h' s.heap.objs.size x y → h'.objs.size = s.heap.objs.size + 1 → But4 z TO i1 i2 s.heap h' → Q (.ref s.heap.objs.size) { s with heap := h' }) :
    wpAny (model prog w) A (Builtin.«zip.__next__» ⟨[.ref z], []⟩) (fun fin s' => ∃ v, fin = .done (.ret v) ∧ Q v s') E s := by
  show wpAny _ _ (field (.ref z) 2 >>= _) _ _ _
  refine wpAny_bind (wpAny_field hz rfl (x := .bool false) rfl ?_)
  show wpAny _ _ (field (.ref z) 3 >>= _) _ _ _
  refine wpAny_bind (wpAny_field hz rfl (x := .ref TI) rfl (wpAny_bind (wpAny_seqItems hI rfl ?_)))
  show wpAny _ _ (Builtin.SmallTypes.ownedTupleIsFree (.ref z) >>= _) _ _ _
  refine wpAny_bind (z_free hz hf ?_)
  simp only [if_true]
  refine wpAny_bind (wpAny_rule (wpAny_bind (wpAny_field hz rfl (x := .ref TO) rfl (wpAny_bind (wpAny_setField_rec hz (by simp) fun g1 z1 t1 => ?_)))))
  have z1' : ZRec g1 z TI TO .ellipsis m1 := z1
  refine wpAny_bind ?_
  simp only [List.zipIdx_cons, List.zipIdx_nil, List.forIn_cons, List.forIn_nil]
  refine wpAny_bind (wpAny_bind (wpAny_onRaise ?_))
  show wpAny _ _ (Builtin.SmallTypes.nextOf (.ref i1) >>= _) _ _ _
  refine wpAny_bind (wpAny_nextOf_list_item (c1.extBut t1.extBut D.i1z) (s1.extBut t1.extBut D.l1z) hx fun g2 c1' t2 => wpAny_pure ?_)
  have o2 : IsPair g2 TO a b := t2.extBut _ _ D.TOi1 (t1.extBut _ _ D.TOz hO)
  refine wpAny_bind (wpAny_seqItems o2 rfl (wpAny_bind (wpAny_updateSeq_pair o2 fun g3 o3 t3 => ?_)))
  have o3' : IsPair g3 TO x b := o3
  refine wpAny_bind (wpAny_letGo (wpAny_pure (wpAny_bind (wpAny_bind (wpAny_onRaise ?_)))))
  show wpAny _ _ (Builtin.SmallTypes.nextOf (.ref i2) >>= _) _ _ _
  refine wpAny_bind (wpAny_nextOf_list_item (((c2.extBut t1.extBut D.i2z).extBut t2.extBut D.i12.symm).extBut t3.extBut D.TOi2.symm) (((s2.extBut t1.extBut D.l2z).extBut t2.extBut D.l2i1).extBut t3.extBut D.l2TO) hy fun g4 c2' t4 => wpAny_pure ?_)
  have o4 : IsPair g4 TO x b := t4.extBut _ _ D.TOi2 o3'
  refine wpAny_bind (wpAny_seqItems o4 rfl (wpAny_bind (wpAny_updateSeq_pair o4 fun g5 o5 t5 => ?_)))
  have o5' : IsPair g5 TO x y := o5
  refine wpAny_bind (wpAny_letGo (wpAny_pure (wpAny_pure (wpAny_bind (wpAny_seqItems o5' rfl (wpAny_bind (wpAny_newTuple ?_)))))))
  have sz : g5.objs.size = s.heap.objs.size := by rw [t5.1, t4.1, t3.1, t2.1, t1.1]
  have z5 : ZRec g5 z TI TO .ellipsis m1 := t5.extBut _ _ D.TOz.symm (t4.extBut _ _ D.i2z.symm (t3.extBut _ _ D.TOz.symm (t2.extBut _ _ D.i1z.symm z1')))
  have k5 : But4 z TO i1 i2 s.heap g5 := fun r o r1 r2 r3 r4 e => t5.extBut _ _ r2 (t4.extBut _ _ r4 (t3.extBut _ _ r2 (t2.extBut _ _ r3 (t1.extBut _ _ r1 e))))
  have c15 : g5.IsListIter i1 l1 (k1 + 1) := ((c1'.extBut t3.extBut D.TOi1.symm).extBut t4.extBut D.i12).extBut t5.extBut D.TOi1.symm
  have c25 : g5.IsListIter i2 l2 (k2 + 1) := c2'.extBut t5.extBut D.TOi2.symm
  have zl : z < g5.objs.size := Heap.lt_size z5
  show wpAny _ _ (Builtin.SmallTypes.ownedTupleHandOut (.ref z) (.ref g5.objs.size) >>= _) _ _ _
  refine wpAny_bind ?_
  unfold Builtin.SmallTypes.ownedTupleHandOut
  have z6 : ZRec (g5.push { cls := .type "tuple", data := .seq #[x, y] }) z TI TO .ellipsis m1 := Heap.get?_push_of_some _ z5
  refine wpAny_bind (wpAny_setField_rec z6 (by simp) fun g7 z7 t7 => ?_)
  have z7' : ZRec g7 z TI TO (rawInt g5.objs.size) m1 := z7
  refine wpAny_setField_rec z7' (by simp) fun g8 z8 t8 => ?_
  have z8' : ZRec g8 z TI TO (rawInt g5.objs.size) false := z8
  have up : ∀ r o, r ≠ z → g5.get? r = some o → g8.get? r = some o := fun r o r1 e => t8.extBut _ _ r1 (t7.extBut _ _ r1 (Heap.get?_push_of_some _ e))
  have T8 : IsPair g8 g5.objs.size x y := t8.extBut _ _ (Nat.ne_of_gt zl) (t7.extBut _ _ (Nat.ne_of_gt zl) (Heap.get?_push_size _ rfl))
  have n8 : g8.objs.size = g5.objs.size + 1 := by rw [t8.1, t7.1, Heap.size_push]
  rw [sz] at z8' T8 n8
  refine wpAny_pure ⟨_, rfl, ?_⟩
  show Q (.ref g5.objs.size) _
  rw [sz]
  exact q g8 z8' (up _ _ D.TOz o5') (c15.at fun o e => up _ o D.i1z e) (c25.at fun o e => up _ o D.i2z e) T8 n8 fun r o r1 r2 r3 r4 e => up r o r1 (k5 r o r1 r2 r3 r4 e)
theorem z_end {z TI TO i1 i2 l1 l2 : Addr} {k1 k2 : Nat} {xs ys : Array Value} {a b m0 : Value} {m1 : Bool} {Q : Fin → Shared → Prop} (hh : A.handled = none) (D : ZipApart z TI TO i1 i2 l1 l2) (hf : ZFree s.heap m0)
    (hz : ZRec s.heap z TI TO m0 m1) (hI : IsPair s.heap TI (.ref i1) (.ref i2)) (hO : IsPair s.heap TO a b) (c1 : s.heap.IsListIter i1 l1 k1) (c2 : s.heap.IsListIter i2 l2 k2) (s1 : s.heap.IsList l1 xs) (s2 : s.heap.IsList l2 ys)
    (hend : xs[k1]? = none ∨ ys[k2]? = none)
    (q : ∀ h' e, But4 z TO i1 i2 s.heap h' → (∃ o, h'.get? e = some o ∧ o.cls = .type "StopIteration") → E (.ref e) { s with heap := h' }) :
    wpAny (model prog w) A (Builtin.«zip.__next__» ⟨[.ref z], []⟩) Q E s := by
  show wpAny _ _ (field (.ref z) 2 >>= _) _ _ _
  refine wpAny_bind (wpAny_field hz rfl (x := .bool false) rfl ?_)
  show wpAny _ _ (field (.ref z) 3 >>= _) _ _ _
  refine wpAny_bind (wpAny_field hz rfl (x := .ref TI) rfl (wpAny_bind (wpAny_seqItems hI rfl ?_)))
  show wpAny _ _ (Builtin.SmallTypes.ownedTupleIsFree (.ref z) >>= _) _ _ _
  refine wpAny_bind (z_free hz hf ?_)
  simp only [if_true]
  refine wpAny_bind (wpAny_rule (wpAny_bind (wpAny_field hz rfl (x := .ref TO) rfl (wpAny_bind (wpAny_setField_rec hz (by simp) fun g1 z1 t1 => ?_)))))
  have z1' : ZRec g1 z TI TO .ellipsis m1 := z1
  refine wpAny_bind ?_
  simp only [List.zipIdx_cons, List.zipIdx_nil, List.forIn_cons, List.forIn_nil]
  refine wpAny_bind (wpAny_bind (wpAny_onRaise ?_))
  show wpAny _ _ (Builtin.SmallTypes.nextOf (.ref i1) >>= _) _ _ _
  cases hx : xs[k1]? with
  | none =>
    refine wpAny_bind (wpAny_nextOf_list_end hh (c1.extBut t1.extBut D.i1z) (s1.extBut t1.extBut D.l1z) hx fun g2 e t2 ⟨oe, he, hc⟩ => ?_)
    have z2 : ZRec g2 z TI TO .ellipsis m1 := t2 _ _ D.i1z.symm z1'
    have ez : e ≠ z := fun u => by subst u; rw [z2] at he; cases he; simp at hc
    exact wpAny_setField_rec z2 (by simp) fun g3 _ t3 => q g3 e (fun r o r1 _ r3 _ u => t3.extBut _ _ r1 (t2 _ _ r3 (t1.extBut _ _ r1 u))) ⟨oe, t3.extBut _ _ ez he, hc⟩
  | some x =>
    have hy : ys[k2]? = none := by
      rcases hend with u | u
      · rw [hx] at u; cases u
      · exact u
    refine wpAny_bind (wpAny_nextOf_list_item (c1.extBut t1.extBut D.i1z) (s1.extBut t1.extBut D.l1z) hx fun g2 c1' t2 => wpAny_pure ?_)
    have o2 : IsPair g2 TO a b := t2.extBut _ _ D.TOi1 (t1.extBut _ _ D.TOz hO)
    refine wpAny_bind (wpAny_seqItems o2 rfl (wpAny_bind (wpAny_updateSeq_pair o2 fun g3 o3 t3 => ?_)))
    refine wpAny_bind (wpAny_letGo (wpAny_pure (wpAny_bind (wpAny_bind (wpAny_onRaise ?_)))))
    show wpAny _ _ (Builtin.SmallTypes.nextOf (.ref i2) >>= _) _ _ _
    refine wpAny_bind (wpAny_nextOf_list_end hh (((c2.extBut t1.extBut D.i2z).extBut t2.extBut D.i12.symm).extBut t3.extBut D.TOi2.symm) (((s2.extBut t1.extBut D.l2z).extBut t2.extBut D.l2i1).extBut t3.extBut D.l2TO) hy fun g4 e t4 ⟨oe, he, hc⟩ => ?_)
    have z4 : ZRec g4 z TI TO .ellipsis m1 := t4 _ _ D.i2z.symm (t3.extBut _ _ D.TOz.symm (t2.extBut _ _ D.i1z.symm z1'))
    have ez : e ≠ z := fun u => by subst u; rw [z4] at he; cases he; simp at hc
    exact wpAny_setField_rec z4 (by simp) fun g5 _ t5 => q g5 e (fun r o r1 r2 r3 r4 u => t5.extBut _ _ r1 (t4 _ _ r4 (t3.extBut _ _ r2 (t2.extBut _ _ r3 (t1.extBut _ _ r1 u))))) ⟨oe, t5.extBut _ _ ez he, hc⟩

/-! ### the zip, whether its pair is held or not -/
def ZAny (h : Heap) (z TI TO : Addr) : Prop := (ZRec h z TI TO .none false ∨ ∃ (T : Addr) (m1 : Bool), ZRec h z TI TO (rawInt T) m1) ∧ ∃ a b, IsPair h TO a b
theorem ZAny.typ {z TI TO : Addr} (hz : ZAny s.heap z TI TO) : s.TypeIs (.ref z) "zip" := by
  rcases hz.1 with h | ⟨T, m1, h⟩
  · exact ⟨_, h, rfl⟩
  · exact ⟨_, h, rfl⟩
theorem next_zip_item {z TI TO i1 i2 l1 l2 : Addr} {k : Nat} {xs ys : Array Value} {x y : Value} {Q : Value → Shared → Prop} (D : ZipApart z TI TO i1 i2 l1 l2) (hz : ZAny s.heap z TI TO) (hI : IsPair s.heap TI (.ref i1) (.ref i2))
    (c1 : s.heap.IsListIter i1 l1 k) (c2 : s.heap.IsListIter i2 l2 k) (s1 : s.heap.IsList l1 xs) (s2 : s.heap.IsList l2 ys) (hx : xs[k]? = some x) (hy : ys[k]? = some y)
    (q : ∀ h', ZAny h' z TI TO → h'.IsListIter i1 l1 (k + 1) → h'.IsListIter i2 l2 (k + 1) → IsPair h' s.heap.objs.size x y → h'.objs.size = s.heap.objs.size + 1 → But4 z TO i1 i2 s.heap h' → Q (.ref s.heap.objs.size) { s with heap := h' }) :
    wpAny (model prog w) A (Builtin.SmallTypes.nextOf (.ref z)) Q E s := by
  have hT := hz.typ
  unfold Builtin.SmallTypes.nextOf
  refine wpAny_bind (wpAny_callSpecial?_slot (name := Str.ofString "__next__") hT F.slot_zip_next (wpAny_call_entry F.slot_zip_next hT F.entry_zip_next ?_ (F.args_zip_next_1 _)))
  obtain ⟨hr, a, b, hO⟩ := hz
  have free : ∀ {m0 : Value} {m1 : Bool}, ZRec s.heap z TI TO m0 m1 → ZFree s.heap m0 → wpAny (model prog w) A.in1 (Builtin.«zip.__next__» ⟨[.ref z], []⟩) (fun fin s' => ∃ v, fin = .done (.ret v) ∧ wpAny (model prog w) A (pure v) Q E s') E s := fun hr hf =>
    z_item D hf hr hI hO c1 c2 s1 s2 hx hy fun h' a1 a2 a3 a4 a5 a6 a7 => wpAny_pure (q h' ⟨.inr ⟨_, _, a1⟩, _, _, a2⟩ a3 a4 a5 a6 a7)
  rcases hr with hr | ⟨T, m1, hr⟩
  · exact free hr (.inl rfl)
  · cases e : s.heap.get? T with
    | none => exact free hr (.inr ⟨T, rfl, e⟩)
    | some oT =>
      refine zip_next_item_held D hr e hI c1 c2 s1 s2 hx hy fun h' a1 a3 a4 a5 a6 a7 => wpAny_pure (q h' ⟨.inr ⟨_, _, a1⟩, a, b, a7 _ _ D.TOz D.TOi1 D.TOi2 hO⟩ a3 a4 a5 a6 fun r o r1 _ r3 r4 u => a7 r o r1 r3 r4 u)
theorem next_zip_end {z TI TO i1 i2 l1 l2 : Addr} {k : Nat} {xs ys : Array Value} {Q : Value → Shared → Prop} (hh : A.handled = none) (D : ZipApart z TI TO i1 i2 l1 l2) (hz : ZAny s.heap z TI TO) (hI : IsPair s.heap TI (.ref i1) (.ref i2))
    (c1 : s.heap.IsListIter i1 l1 k) (c2 : s.heap.IsListIter i2 l2 k) (s1 : s.heap.IsList l1 xs) (s2 : s.heap.IsList l2 ys) (hend : xs[k]? = none ∨ ys[k]? = none)
    (q : ∀ h' e, But4 z TO i1 i2 s.heap h' → (∃ o, h'.get? e = some o ∧ o.cls = .type "StopIteration") → E (.ref e) { s with heap := h' }) :
    wpAny (model prog w) A (Builtin.SmallTypes.nextOf (.ref z)) Q E s := by
  have hT := hz.typ
  unfold Builtin.SmallTypes.nextOf
  refine wpAny_bind (wpAny_callSpecial?_slot (name := Str.ofString "__next__") hT F.slot_zip_next (wpAny_call_entry F.slot_zip_next hT F.entry_zip_next ?_ (F.args_zip_next_1 _)))
  obtain ⟨hr, a, b, hO⟩ := hz
  have hh1 : A.in1.handled = none := hh
  rcases hr with hr | ⟨T, m1, hr⟩
  · exact z_end hh1 D (.inl rfl) hr hI hO c1 c2 s1 s2 hend q
  · cases e : s.heap.get? T with
    | none => exact z_end hh1 D (.inr ⟨T, rfl, e⟩) hr hI hO c1 c2 s1 s2 hend q
    | some oT => exact zip_next_end_held hh1 D hr e hI c1 c2 s1 s2 hend fun h' e a7 he => q h' e (fun r o r1 _ r3 r4 u => a7 r o r1 r3 r4 u) he
end
end Reh
end RdEnum
section RdEnumZip
/-! enumerate over a zip: made, turned, ended; the walk. -/
namespace Reh
open PySem PySem.Spec PyProof.Rows L2
section
variable {prog : Program} {w : World} {A : Around} {E : Value → Shared → Prop} {s : Shared}
structure EApart (e z TI TO i1 i2 l1 l2 : Addr) : Prop where
  D : ZipApart z TI TO i1 i2 l1 l2
  ez : e ≠ z
  eI : e ≠ TI
  eO : e ≠ TO
  e1 : e ≠ i1
  e2 : e ≠ i2
  el1 : l1 ≠ e
  el2 : l2 ≠ e
theorem ZAny.at {h h' : Heap} {z TI TO : Addr} (hz : ZAny h z TI TO) (k : ∀ r o, (r = z ∨ r = TO) → h.get? r = some o → h'.get? r = some o) : ZAny h' z TI TO := by
  obtain ⟨hr, a, b, hO⟩ := hz
  refine ⟨?_, a, b, k _ _ (.inr rfl) hO⟩
  rcases hr with hr | ⟨T, m1, hr⟩
  · exact .inl (k _ _ (.inl rfl) hr)
  · exact .inr ⟨T, m1, k _ _ (.inl rfl) hr⟩
theorem enum_item {e z TI TO i1 i2 l1 l2 : Addr} {k : Nat} {old x y : Value} {xs ys : Array Value} {Q : Value → Shared → Prop} (G : EApart e z TI TO i1 i2 l1 l2) (he : IsEnum s.heap e z (k : Nat) old) (hz : ZAny s.heap z TI TO) (hI : IsPair s.heap TI (.ref i1) (.ref i2))
    (c1 : s.heap.IsListIter i1 l1 k) (c2 : s.heap.IsListIter i2 l2 k) (s1 : s.heap.IsList l1 xs) (s2 : s.heap.IsList l2 ys) (hx : xs[k]? = some x) (hy : ys[k]? = some y)
    (q : ∀ h', IsEnumOut h' e z ((k : Int) + 1) (.ref s.heap.objs.size) (s.heap.objs.size + 1) → ZAny h' z TI TO → h'.IsListIter i1 l1 (k + 1) → h'.IsListIter i2 l2 (k + 1) → IsPair h' s.heap.objs.size x y →
      IsPair h' (s.heap.objs.size + 1) (.int (k : Nat) s.toks) (.ref s.heap.objs.size) → (∃ g : Heap, g.objs.size = s.heap.objs.size + 1 ∧ IsPair g s.heap.objs.size x y ∧ But4 z TO i1 i2 s.heap g ∧ ∀ r o, r ≠ e → g.get? r = some o → h'.get? r = some o) → Q (.ref (s.heap.objs.size + 1)) { s with heap := h', toks := s.toks + 1 }) :
    wpAny (model prog w) A (Builtin.«enumerate.__next__» ⟨[.ref e], []⟩) (fun fin s' => ∃ v, fin = .done (.ret v) ∧ Q v s') E s := by
  obtain ⟨hp, g, d, tk, os⟩ := s
  show wpAny _ _ (field (.ref e) 2 >>= _) _ _ _
  refine wpAny_bind (wpAny_field he rfl (x := .ref z) rfl (wpAny_bind (next_zip_item G.D hz hI c1 c2 s1 s2 hx hy fun h1 z1 a1 a2 p1 n1 b1 => ?_)))
  have p1 : IsPair h1 hp.objs.size x y := p1
  have n1 : h1.objs.size = hp.objs.size + 1 := n1
  have b1 : But4 z TO i1 i2 hp h1 := b1
  have e1 : IsEnum h1 e z (k : Nat) old := b1 _ _ G.ez G.eO G.e1 G.e2 he
  show wpAny _ _ (field (.ref e) 3 >>= _) _ _ ⟨h1, g, d, tk, os⟩
  refine wpAny_bind (wpAny_field e1 rfl (x := rawInt (k : Nat)) rfl ?_)
  show wpAny _ _ (field (.ref e) 4 >>= _) _ _ ⟨h1, g, d, tk, os⟩
  refine wpAny_bind (wpAny_field e1 rfl (x := .none) rfl ?_)
  show wpAny _ _ (mkInt (k : Nat) >>= _) _ _ ⟨h1, g, d, tk, os⟩
  refine wpAny_bind (wpAny_mkInt ?_)
  show wpAny _ _ (setField (.ref e) 3 (rawInt ((k : Int) + 1)) >>= _) _ _ ⟨h1, g, d, tk + 1, os⟩
  refine wpAny_bind (wpAny_setField_rec e1 (by simp) fun h2 e2 t2 => ?_)
  have e2 : IsEnum h2 e z ((k : Int) + 1) old := e2
  have t2 : Heap.SameBut e h1 h2 := t2
  show wpAny _ _ (setField (.ref e) 4 .none >>= _) _ _ ⟨h2, g, d, tk + 1, os⟩
  refine wpAny_bind (wpAny_setField_rec e2 (by simp) fun h3 e3 t3 => ?_)
  have e3 : IsEnum h3 e z ((k : Int) + 1) old := e3
  have t3 : Heap.SameBut e h2 h3 := t3
  show wpAny _ _ (newTuple [.int (k : Nat) tk, .ref hp.objs.size] >>= _) _ _ ⟨h3, g, d, tk + 1, os⟩
  refine wpAny_bind (wpAny_newTuple ?_)
  have n3 : h3.objs.size = hp.objs.size + 1 := by rw [t3.1, t2.1, n1]
  have el : e < hp.objs.size := Heap.lt_size he
  show wpAny _ _ (Builtin.SmallTypes.ownedTupleIsFree (.ref e) >>= _) _ _ ⟨h3.push { cls := .type "tuple", data := .seq #[.int (k : Nat) tk, .ref hp.objs.size] }, g, d, tk + 1, os⟩
  have e4 : IsEnum (h3.push { cls := .type "tuple", data := .seq #[.int (k : Nat) tk, .ref hp.objs.size] }) e z ((k : Int) + 1) old := Heap.get?_push_of_some _ e3
  have T4 : IsPair (h3.push { cls := .type "tuple", data := .seq #[.int (k : Nat) tk, .ref hp.objs.size] }) (hp.objs.size + 1) (.int (k : Nat) tk) (.ref hp.objs.size) := by
    rw [← n3]
    exact Heap.get?_push_size _ rfl
  have k4 : ∀ r o, r ≠ e → h1.get? r = some o → (h3.push { cls := .type "tuple", data := .seq #[.int (k : Nat) tk, .ref hp.objs.size] }).get? r = some o := fun r o r1 u => Heap.get?_push_of_some _ (t3.extBut _ _ r1 (t2.extBut _ _ r1 u))
  rw [n3]
  generalize h3.push { cls := .type "tuple", data := .seq #[.int (k : Nat) tk, .ref hp.objs.size] } = h4 at e4 T4 k4
  refine wpAny_bind ?_
  unfold Builtin.SmallTypes.ownedTupleIsFree
  refine wpAny_bind (wpAny_field e4 rfl (x := .none) rfl (wpAny_pure ?_))
  simp only [if_true]
  refine wpAny_bind (wpAny_rule (wpAny_bind (wpAny_field e4 rfl (x := old) rfl (wpAny_bind (wpAny_setField_rec e4 (by simp) fun h5 e5 t5 => ?_)))))
  have e5 : IsEnum h5 e z ((k : Int) + 1) (.ref hp.objs.size) := e5
  have t5 : Heap.SameBut e h4 h5 := t5
  show wpAny _ _ (Builtin.SmallTypes.ownedTupleHandOut (.ref e) (.ref (hp.objs.size + 1)) >>= _) _ _ ⟨h5, g, d, tk + 1, os⟩
  refine wpAny_bind ?_
  unfold Builtin.SmallTypes.ownedTupleHandOut
  refine wpAny_bind (wpAny_setField_rec e5 (by simp) fun h6 e6 t6 => ?_)
  have e6 : IsEnumOut h6 e z ((k : Int) + 1) (.ref hp.objs.size) (hp.objs.size + 1) := e6
  have t6 : Heap.SameBut e h5 h6 := t6
  refine wpAny_setField_rec e6 (by simp) fun h7 e7 t7 => ?_
  have e7 : IsEnumOut h7 e z ((k : Int) + 1) (.ref hp.objs.size) (hp.objs.size + 1) := e7
  have t7 : Heap.SameBut e h6 h7 := t7
  have k7 : ∀ r o, r ≠ e → h1.get? r = some o → h7.get? r = some o := fun r o r1 u => t7.extBut _ _ r1 (t6.extBut _ _ r1 (t5.extBut _ _ r1 (k4 r o r1 u)))
  have ne1 : hp.objs.size + 1 ≠ e := Nat.ne_of_gt (Nat.lt_succ_of_lt el)
  refine wpAny_bind (wpAny_letGo (wpAny_pure ⟨_, rfl, q h7 e7 (z1.at fun r o hr u => k7 r o ?_ u) (a1.at fun o u => k7 _ o G.e1.symm u) (a2.at fun o u => k7 _ o G.e2.symm u) (k7 _ _ (Nat.ne_of_gt el) p1) (t7.extBut _ _ ne1 (t6.extBut _ _ ne1 (t5.extBut _ _ ne1 T4))) ⟨h1, n1, p1, b1, k7⟩⟩))
  rcases hr with rfl | rfl
  · exact G.ez.symm
  · exact G.eO.symm
theorem pyNext_enum_item {e z TI TO i1 i2 l1 l2 : Addr} {k : Nat} {old x y : Value} {xs ys : Array Value} {Q : Option Value → Shared → Prop} (G : EApart e z TI TO i1 i2 l1 l2) (he : IsEnum s.heap e z (k : Nat) old) (hz : ZAny s.heap z TI TO) (hI : IsPair s.heap TI (.ref i1) (.ref i2))
    (c1 : s.heap.IsListIter i1 l1 k) (c2 : s.heap.IsListIter i2 l2 k) (s1 : s.heap.IsList l1 xs) (s2 : s.heap.IsList l2 ys) (hx : xs[k]? = some x) (hy : ys[k]? = some y)
    (q : ∀ h', IsEnumOut h' e z ((k : Int) + 1) (.ref s.heap.objs.size) (s.heap.objs.size + 1) → ZAny h' z TI TO → h'.IsListIter i1 l1 (k + 1) → h'.IsListIter i2 l2 (k + 1) → IsPair h' s.heap.objs.size x y →
      IsPair h' (s.heap.objs.size + 1) (.int (k : Nat) s.toks) (.ref s.heap.objs.size) → (∃ g : Heap, g.objs.size = s.heap.objs.size + 1 ∧ IsPair g s.heap.objs.size x y ∧ But4 z TO i1 i2 s.heap g ∧ ∀ r o, r ≠ e → g.get? r = some o → h'.get? r = some o) → Q (some (.ref (s.heap.objs.size + 1))) { s with heap := h', toks := s.toks + 1 }) :
    wpAny (model prog w) A (pyNext (.ref e)) Q E s := by
  have hT : s.TypeIs (.ref e) "enumerate" := ⟨_, he, rfl⟩
  unfold pyNext
  exact wpAny_bind (wpAny_attempt (wpAny_callSpecial?_slot (name := Str.ofString "__next__") hT F.slot_enumerate_next (wpAny_call_entry F.slot_enumerate_next hT F.entry_enumerate_next
    (enum_item G he hz hI c1 c2 s1 s2 hx hy fun h' u1 u2 u3 u4 u5 u6 u7 => wpAny_pure (q h' u1 u2 u3 u4 u5 u6 u7)) (F.args_enumerate_next_1 _))))
theorem pyNext_enum_end {e z TI TO i1 i2 l1 l2 : Addr} {k : Nat} {old : Value} {xs ys : Array Value} {Q : Option Value → Shared → Prop} (hh : A.handled = none) (G : EApart e z TI TO i1 i2 l1 l2) (he : IsEnum s.heap e z (k : Nat) old) (hz : ZAny s.heap z TI TO) (hI : IsPair s.heap TI (.ref i1) (.ref i2))
    (c1 : s.heap.IsListIter i1 l1 k) (c2 : s.heap.IsListIter i2 l2 k) (s1 : s.heap.IsList l1 xs) (s2 : s.heap.IsList l2 ys) (hend : xs[k]? = none ∨ ys[k]? = none)
    (q : ∀ h', But4 z TO i1 i2 s.heap h' → Q none { s with heap := h' }) : wpAny (model prog w) A (pyNext (.ref e)) Q E s := by
  have hT : s.TypeIs (.ref e) "enumerate" := ⟨_, he, rfl⟩
  have hh1 : A.in1.handled = none := hh
  unfold pyNext
  refine wpAny_bind (wpAny_attempt (wpAny_callSpecial?_slot (name := Str.ofString "__next__") hT F.slot_enumerate_next (wpAny_call_entry F.slot_enumerate_next hT F.entry_enumerate_next ?_ (F.args_enumerate_next_1 _))))
  show wpAny _ _ (field (.ref e) 2 >>= _) _ _ _
  refine wpAny_bind (wpAny_field he rfl (x := .ref z) rfl (wpAny_bind (next_zip_end hh1 G.D hz hI c1 c2 s1 s2 hend fun h' v b1 ⟨o, ho, hc⟩ => ?_)))
  exact wpAny_bind (wpAny_isInstance (T := "StopIteration") (b := true) ⟨o, ho, hc⟩ isSubtype_stop (wpAny_pure (q _ b1)))

/-! ### enumerate(z) -/
theorem zip_self {z TI TO : Addr} {Q : Value → Shared → Prop} (hz : ZAny s.heap z TI TO) (h : Q (.ref z) s) : wpAny (model prog w) A (pyIter (.ref z)) Q E s := by
  have hT := hz.typ
  refine wpAny_pyIter_slot hT F.slot_zip_iter (wpAny_call_entry F.slot_zip_iter hT F.entry_zip_iter ?_ (F.args_zip_iter_1 _))
  show wpAny _ _ (ret (.ref z)) _ _ s
  exact wpAny_pure ⟨_, rfl, "zip", _, hT, F.slot_zip_next.lookup, h⟩
end
theorem meets_enum_zip (z TI TO : Addr) : Meets (Builtin.«enumerate.__new__» ⟨[.type "enumerate", .ref z], []⟩) (fun _ R s => ZAny s.heap z TI TO ∧
      R (.ok (.ret (.ref s.heap.objs.size))) { s with heap := s.heap.push { cls := .type "enumerate", data := .fields #[.none, .bool false, .ref z, rawInt 0, .none, .none] } }) :=
  .of_wp fun prog w A R s h => by
    obtain ⟨hp, g, d, tk, os⟩ := s
    obtain ⟨hz, h⟩ := h
    have hsub := sub_enumerate
    have q1 : ∀ {A' : Around} {E : Value → Shared → Prop} {Q : Value → Shared → Prop}, Q (.ref z) ⟨hp, g, d, tk, os⟩ → wpAny (model prog w) A' (pyIter (.ref z)) Q E ⟨hp, g, d, tk, os⟩ := fun q => zip_self (s := ⟨hp, g, d, tk, os⟩) hz q
    wp_walk using q1
    refine wpAny_stack_any fun st => wpAny_pure ?_
    split
    · rename_i c _ _ _ _ _
      cases (c == Value.type "enumerate")
      · wp_walk using q1
        exact ⟨_, rfl, h⟩
      · wp_walk using q1
        exact ⟨_, rfl, h⟩
    · wp_walk using q1
      exact ⟨_, rfl, h⟩
section
variable {prog : Program} {w : World} {A : Around} {E : Value → Shared → Prop} {s : Shared}
theorem call_enum_zip {z TI TO : Addr} {Q : Value → Shared → Prop} (hz : ZAny s.heap z TI TO)
    (h : ∀ h', IsEnum h' s.heap.objs.size z 0 .none → (∀ b o, s.heap.get? b = some o → h'.get? b = some o) → Q (.ref s.heap.objs.size) { s with heap := h' }) :
    wpAny (model prog w) A (call (.type "enumerate") [.ref z]) Q E s := by
  refine callType_new F.called_enumerate (by decide) (F.typeCall_enumerate_1 _) (F.newCall_enumerate_1 _) (fun obj => F.args_object_init_2 obj _) F.entry_enumerate_new (meets_enum_zip z TI TO) ⟨hz, ?_⟩
  have he : IsEnum (s.heap.push { cls := .type "enumerate", data := .fields #[.none, .bool false, .ref z, rawInt 0, .none, .none] }) s.heap.objs.size z 0 .none := Heap.get?_push_size _ rfl
  exact ⟨⟨_, he, rfl⟩, h _ he fun b o x => Heap.get?_push_of_some _ x⟩
end

/-! ### the walk -/
/-- the lists at a and b: behind their number, their items in a new pair -/
def Itez (K : PySem.W.Frag) (a b : Addr) : It :=
  ⟨fun i H => ∃ (xs ys : List V) (x y : V), SqL K H a xs ∧ SqL K H b ys ∧ xs[i]? = some x ∧ ys[i]? = some y,
    fun i H v H' => ∃ T U x y, v = .ref T ∧ H U = none ∧ upd H U (.tup [x, y]) T = none ∧ H' = upd (upd H U (.tup [x, y])) T (.tup [.int (i : Nat), .ref U]) ∧ (∀ xs, SqL K H a xs → xs[i]? = some x) ∧ ∀ ys, SqL K H b ys → ys[i]? = some y,
    fun i H => ∃ xs ys : List V, SqL K H a xs ∧ SqL K H b ys ∧ (xs.length ≤ i ∨ ys.length ≤ i)⟩
theorem turn_ez {P : Program} {w : World} {K : PySem.W.Frag} {elts : List Expr} {kk : Nat} {tpos : Pos} {a b e z TI TO i1 i2 : Addr} (G : EApart e z TI TO i1 i2 a b) :
    Turn P w K (.Tuple elts kk tpos) (Itez K a b) [e, z, TI, TO, i1, i2] e (fun i h => (∃ old, IsEnum h e z (i : Nat) old) ∧ ZAny h z TI TO ∧ IsPair h TI (.ref i1) (.ref i2) ∧ h.IsListIter i1 a i ∧ h.IsListIter i2 b i) where
  mem := by simp
  obj := fun i h st c hc => by
    obtain ⟨⟨old, he⟩, ⟨hr, x0, y0, hO⟩, hI, ⟨o1, q1, _, d1⟩, ⟨o2, q2, _, d2⟩⟩ := st
    have e' : c = e ∨ c = z ∨ c = TI ∨ c = TO ∨ c = i1 ∨ c = i2 := by simpa using hc
    rcases e' with q | q | q | q | q | q
    · rw [q]; exact ⟨_, he, fun v u => nomatch u⟩
    · rw [q]
      rcases hr with hr | ⟨T, m1, hr⟩
      · exact ⟨_, hr, fun v u => nomatch u⟩
      · exact ⟨_, hr, fun v u => nomatch u⟩
    · rw [q]; exact ⟨_, hI, fun v u => nomatch u⟩
    · rw [q]; exact ⟨_, hO, fun v u => nomatch u⟩
    · rw [q]; exact ⟨o1, q1, fun v u => by rw [d1] at u; cases u⟩
    · rw [q]; exact ⟨o2, q2, fun v u => by rw [d2] at u; cases u⟩
  keep := fun i h h' st k => by
    obtain ⟨⟨old, he⟩, hz, hI, c1, c2⟩ := st
    refine ⟨⟨old, k e (by simp) _ he⟩, hz.at fun r o hr u => k r ?_ o u, k TI (by simp) _ hI, c1.at fun o q => k i1 (by simp) o q, c2.at fun o q => k i2 (by simp) o q⟩
    rcases hr with rfl | rfl <;> simp
  item := by
    intro X hP hw hK hc i pins s σ H E I hf st hg
    subst hP hw hK
    obtain ⟨⟨old, he⟩, hz, hI, c1, c2⟩ := st
    obtain ⟨xs, ys, x, y, hqx, hqy, hx, hy⟩ := hg
    obtain ⟨its, rv, p, _⟩ := I.list hqx
    obtain ⟨its2, rv2, p2, _⟩ := I.list hqy
    obtain ⟨u, hu, ru⟩ := rv.get hx
    obtain ⟨u2, hu2, ru2⟩ := rv2.get hy
    have hel : e < s.heap.objs.size := Heap.lt_size he
    refine pyNext_enum_item G he hz hI c1 c2 p.isList p2.isList (x := u) (y := u2) (by simpa using hu) (by simpa using hu2) fun h' e1 z1 a1 a2 p1 t1 b1 => ?_
    refine ⟨_, rfl, wpAny_letOwnedTupleGo_enum (s := { s with heap := h', toks := s.toks + 1 }) e1 fun h'' e2 sb => ?_⟩
    obtain ⟨g, gn, gp, gb, gk⟩ := b1
    have up : ∀ r o, r ≠ e → g.get? r = some o → h''.get? r = some o := fun r o hr q => (sb.2 r hr).trans (gk r o hr q)
    have lts : ∀ c ∈ [e, z, TI, TO, i1, i2], c < s.heap.objs.size := fun c hc => by
      obtain ⟨hr, x0, y0, hO⟩ := hz
      have e' : c = e ∨ c = z ∨ c = TI ∨ c = TO ∨ c = i1 ∨ c = i2 := by simpa using hc
      rcases e' with q | q | q | q | q | q
      · rw [q]; exact hel
      · rw [q]
        rcases hr with hr | ⟨T, m1, hr⟩ <;> exact Heap.lt_size hr
      · rw [q]; exact Heap.lt_size hI
      · rw [q]; exact Heap.lt_size hO
      · rw [q]; obtain ⟨_, q1, _⟩ := c1; exact Heap.lt_size q1
      · rw [q]; obtain ⟨_, q2, _⟩ := c2; exact Heap.lt_size q2
    have nU : H s.heap.objs.size = none := I.hok.fresh (Nat.le_refl _)
    have newU : ObjOk X.prog X.w (upd H s.heap.objs.size (.tup [x, y])) g s.heap.objs.size (.tup [x, y]) := ⟨by show 2 ≤ sizeLine; decide, [u, u2], .cons ru (.cons ru2 .nil), ⟨_, gp, rfl, _, rfl⟩⟩
    have I1 : Inv X pins σ (upd H s.heap.objs.size (.tup [x, y])) { s with heap := g, toks := s.toks } :=
      I.turnedNew (ch := [e, z, TI, TO, i1, i2]) (fun c o hc q => gb c o (fun v => hc (by simp [v])) (fun v => hc (by simp [v])) (fun v => hc (by simp [v])) (fun v => hc (by simp [v])) q) hf (Nat.le_refl _) newU
    have hf1 : ∀ c ∈ [e, z, TI, TO, i1, i2], FpOk X pins (upd H s.heap.objs.size (.tup [x, y])) c := fun c hc => by
      obtain ⟨f0, f⟩ := hf c hc
      exact ⟨by rw [upd_ne (Nat.ne_of_lt (lts c hc))]; exact f0, f⟩
    have pT : h''.get? (s.heap.objs.size + 1) = some { cls := .type "tuple", data := .seq #[.int i s.toks, .ref s.heap.objs.size] } := (sb.2 _ (Nat.ne_of_gt (Nat.lt_succ_of_lt hel))).trans t1
    have newT : ObjOk X.prog X.w (upd (upd H s.heap.objs.size (.tup [x, y])) (s.heap.objs.size + 1) (.tup [.int (i : Nat), .ref s.heap.objs.size])) h'' (s.heap.objs.size + 1) (.tup [.int (i : Nat), .ref s.heap.objs.size]) :=
      ⟨by show 2 ≤ sizeLine; decide, [.int i s.toks, .ref s.heap.objs.size], .cons ⟨_, rfl⟩ (.cons rfl .nil), ⟨_, pT, rfl, _, rfl⟩⟩
    have I2 : Inv X pins σ (upd (upd H s.heap.objs.size (.tup [x, y])) (s.heap.objs.size + 1) (.tup [.int (i : Nat), .ref s.heap.objs.size])) { s with heap := h'', toks := s.toks + 1 } :=
      I1.turnedNew (t' := s.toks + 1) (ch := [e, z, TI, TO, i1, i2]) (fun c o hc q => up c o (fun v => hc (by simp [v])) q) hf1 (Nat.le_of_eq gn) newT
    have nT : upd H s.heap.objs.size (.tup [x, y]) (s.heap.objs.size + 1) = none := I1.hok.fresh (Nat.le_of_eq gn)
    have eE : IsEnum h'' e z ((i + 1 : Nat) : Int) (.ref s.heap.objs.size) := by
      have q : ((i + 1 : Nat) : Int) = (i : Int) + 1 := by omega
      rw [q]
      exact e2
    have zE : ZAny h'' z TI TO := z1.at fun r o hr q => (sb.2 r (by
      rcases hr with rfl | rfl
      · exact G.ez.symm
      · exact G.eO.symm)).trans q
    have yE : (Itez X.K a b).yld i H (.ref (s.heap.objs.size + 1)) (upd (upd H s.heap.objs.size (.tup [x, y])) (s.heap.objs.size + 1) (.tup [.int (i : Nat), .ref s.heap.objs.size])) :=
      ⟨_, _, x, y, rfl, nU, nT, rfl, fun l hl => by rw [I.list_inj hl hqx]; exact hx, fun l hl => by rw [I.list_inj hl hqy]; exact hy⟩
    refine ⟨.ref (s.heap.objs.size + 1), _, I2, rfl, yE, ⟨⟨_, eE⟩, zE, ?_, a1.at fun o q => (sb.2 _ G.e1.symm).trans q, a2.at fun o q => (sb.2 _ G.e2.symm).trans q⟩, fun c hc => ?_⟩
    · exact up _ _ G.eI.symm (gb _ _ G.D.TIz G.D.TITO G.D.TIi1 G.D.TIi2 hI)
    · rw [upd_ne (Nat.ne_of_lt (Nat.lt_succ_of_lt (lts c hc))), upd_ne (Nat.ne_of_lt (lts c hc))]
      exact (hf c hc).1
  done := by
    intro X hP hw hK hc i pins s σ H E I hf st hg
    subst hP hw hK
    obtain ⟨⟨old, he⟩, hz, hI, c1, c2⟩ := st
    obtain ⟨xs, ys, hqx, hqy, hend⟩ := hg
    obtain ⟨its, rv, p, _⟩ := I.list hqx
    obtain ⟨its2, rv2, p2, _⟩ := I.list hqy
    have n1 := rv.length
    have n2 := rv2.length
    have hend' : its.toArray[i]? = none ∨ its2.toArray[i]? = none := by
      rcases hend with q | q
      · exact .inl (by simp; omega)
      · exact .inr (by simp; omega)
    refine pyNext_enum_end (I.ok.hd hc) G he hz hI c1 c2 p.isList p2.isList hend' fun h' b1 => ⟨rfl, I.turnedL (t' := s.toks) (ch := [e, z, TI, TO, i1, i2]) (fun c o hb q => b1 c o (fun v => hb (by simp [v])) (fun v => hb (by simp [v])) (fun v => hb (by simp [v])) (fun v => hb (by simp [v])) q) hf⟩
  self := fun A i s Q E st h => let ⟨⟨_, he⟩, _⟩ := st; wpAny_pyIter_enum he h

def iEnumZip (K : PySem.W.Frag) (ta : TA) : TI := fun σ H R => ta σ H fun vs H1 => ∃ a b xs ys, vs = [.ref a, .ref b] ∧ SqL K H1 a xs ∧ SqL K H1 b ys ∧ R (Itez K a b) H1
theorem pi_enum_zip {X : Cx} {e e2 : Expr} {ta : TA} {p pos p2 pos2 tpos : Pos} {elts : List Expr} {kk : Nat} (hg : Gl X "enumerate") (hm : X.mg "enumerate" = none) (hgz : Gl X "zip") (hmz : X.mg "zip" = none) (ha : PA X [e, e2] ta)
    (hs : starEach [e, e2] X.env = (false, eval e X.env) :: starEach [e2] X.env := by rfl) (hpl : (backTo pos2 (starEach [e2] X.env)).any (·.1) = false := by rfl)
    (hs0 : starEach [.Call (.Name "zip" p2) [e, e2] [] pos2] X.env = [(false, eval (.Call (.Name "zip" p2) [e, e2] [] pos2) X.env)] := by rfl) :
    PI X (.Tuple elts kk tpos) (.Call (.Name "enumerate" p) [.Call (.Name "zip" p2) [e, e2] [] pos2] [] pos) (iEnumZip X.K ta) := by
  refine ⟨fun pins s σ H R I h => ?_⟩
  refine Call_ (ld_blt I hg hm boot_enumerate (PyProof.Rows.callWith_type1 (spliced_more ?_ hs0) hs0 rfl))
  refine Call_ (ld_blt I hgz hmz PyProof.Rows.boot_zip (PyProof.Rows.callWith_type1 (thn (ha.run pos2 pins s σ H _ I h) fun us s1 ⟨vs, H1, I1, r1, q1⟩ => ?_) hs hpl))
  obtain ⟨a, b, xs, ys, ex, hqx, hqy, q⟩ := q1
  subst ex
  cases r1 with
  | cons r rr =>
    cases rr with
    | cons r' rr =>
      cases rr
      cases r
      cases r'
      obtain ⟨its, rv, p1, _⟩ := I1.list hqx
      obtain ⟨its2, rv2, p2, _⟩ := I1.list hqy
      have la : a < s1.heap.objs.size := p1.lt
      have lb : b < s1.heap.objs.size := p2.lt
      have ap := PySem.W.ktu_apart s1.heap.objs.size a b la lb
      refine call_zip_2 p1.isList p2.isList fun h' hz hI hO c1 c2 hsz hk => spliced_none ?_
      have zA : ZAny h' (s1.heap.objs.size + 4) (s1.heap.objs.size + 2) (s1.heap.objs.size + 3) := ⟨.inl hz, _, _, hO⟩
      refine call_enum_zip (s := { s1 with heap := h' }) zA fun h'' he hk2 => wpAny_pyIter_enum he ?_
      have I2 : Inv X pins σ H1 { s1 with heap := h'' } := I1.kept (t' := s1.toks) fun c o e => hk2 c o (hk c o e)
      have hsz' : h'.objs.size = s1.heap.objs.size + 5 := hsz
      have ne : ∀ c : Addr, c < s1.heap.objs.size + 5 → h'.objs.size ≠ c := fun c hc e => by rw [hsz'] at e; exact absurd hc (by rw [← e]; exact Nat.lt_irrefl _)
      have G : EApart h'.objs.size (s1.heap.objs.size + 4) (s1.heap.objs.size + 2) (s1.heap.objs.size + 3) s1.heap.objs.size (s1.heap.objs.size + 1) a b :=
        ⟨ap, ne _ (Nat.add_lt_add_left (by decide) _), ne _ (Nat.add_lt_add_left (by decide) _), ne _ (Nat.add_lt_add_left (by decide) _), ne _ (Nat.lt_add_of_pos_right (by decide)), ne _ (Nat.add_lt_add_left (by decide) _),
          fun e => ne a (Nat.lt_of_lt_of_le la (Nat.le_add_right _ _)) e.symm, fun e => ne b (Nat.lt_of_lt_of_le lb (Nat.le_add_right _ _)) e.symm⟩
      refine ⟨h'.objs.size, [h'.objs.size, s1.heap.objs.size + 4, s1.heap.objs.size + 2, s1.heap.objs.size + 3, s1.heap.objs.size, s1.heap.objs.size + 1], _, _, H1, rfl, I2, turn_ez G, ⟨⟨_, he⟩, zA.at fun r o _ u => hk2 r o u, hk2 _ _ hI, c1.at fun o u => hk2 _ o u, c2.at fun o u => hk2 _ o u⟩, fun c hcm => ?_, q⟩
      have e' : c = h'.objs.size ∨ c = s1.heap.objs.size + 4 ∨ c = s1.heap.objs.size + 2 ∨ c = s1.heap.objs.size + 3 ∨ c = s1.heap.objs.size ∨ c = s1.heap.objs.size + 1 := by simpa using hcm
      have hle : s1.heap.objs.size ≤ c := by
        rcases e' with z | z | z | z | z | z
        · rw [z, hsz']; exact Nat.le_add_right _ _
        · rw [z]; exact Nat.le_add_right _ _
        · rw [z]; exact Nat.le_add_right _ _
        · rw [z]; exact Nat.le_add_right _ _
        · rw [z]; exact Nat.le_refl _
        · rw [z]; exact Nat.le_add_right _ _
      exact I1.fpOk hle (I1.hok.fresh hle)
/-- what each turn gives -/
def YEZ (xs ys : List V) : Nat → Hp → V → Hp → Prop := fun i H v H' => ∃ T U x y, v = .ref T ∧ H U = none ∧ upd H U (.tup [x, y]) T = none ∧ H' = upd (upd H U (.tup [x, y])) T (.tup [.int (i : Nat), .ref U]) ∧ xs[i]? = some x ∧ ys[i]? = some y
theorem walk_ez {K : PySem.W.Frag} {a b : Addr} {xs ys : List V} {n : Nat} (hn : n = min xs.length ys.length) : Walk (Itez K a b) n (fun H => SqL K H a xs ∧ SqL K H b ys) (YEZ xs ys) := by
  subst hn
  refine ⟨fun i _ hi q => ?_, fun _ q => ⟨xs, ys, q.1, q.2, by omega⟩, fun i H v H' _ q y => ?_⟩
  · have h1 : i < xs.length := by omega
    have h2 : i < ys.length := by omega
    exact ⟨xs, ys, xs[i], ys[i], q.1, q.2, by simp [h1], by simp [h2]⟩
  · obtain ⟨T, U, x, z, h1, h2, h3, h4, h5, h6⟩ := y
    exact ⟨T, U, x, z, h1, h2, h3, h4, h5 xs q.1, h6 ys q.2⟩
theorem iw_ez {K : PySem.W.Frag} {σ : L2.St} {H : Hp} {ta : TA} {xs ys : List V} (h : EvAP ta σ H fun vs H1 => ∃ a b, vs = [.ref a, .ref b] ∧ SqL K H1 a xs ∧ SqL K H1 b ys) {n : Nat} (hn : n = min xs.length ys.length) : IW (iEnumZip K ta) σ H n (YEZ xs ys) := fun H1 e Rq q =>
  h H1 e _ fun vs H2 e2 ⟨a, b, ev, ha, hb⟩ => ⟨a, b, xs, ys, ev, ha, hb, q _ _ H2 e2 (walk_ez hn) fun H3 e3 => ⟨Evl.ex_l e3 ha, Evl.ex_l e3 hb⟩⟩
end Reh
end RdEnumZip
section RdWrong
/-! wrong_with, all_orders. -/
namespace Reh
open PySem PySem.Spec PyProof.Rows L2 Evl
section
variable {P : Program} {w : World} {K : PySem.W.Frag} {mg : Str → Option Value} {base : Heap} {cP cC cS cD : Addr}
/-! ### wrong_with -/
/-- what is known where an order is looked at -/
structure LookAt (cP cC cS : Addr) (H : Hp) (pp pr po : Addr) (d : Uw03.Day) (o : List Nat) : Prop where
  pls : RepL (RPl cP) H pp d.players
  prs : RepL RPr H pr d.ahead
  ord : H po = some (.lst (vi o))
  is : IsOrd d.pieces.length o
  nc : d.pieces.length ≤ 6
  np : d.players.length ≤ 6
  ah : ∀ x ∈ d.ahead, x.1 < d.pieces.length ∧ x.2 < d.pieces.length
  am : d.ahead.length ≤ 50000
theorem LookAt.mono {H H' : Hp} {pp pr po : Addr} {d : Uw03.Day} {o : List Nat} (e : Ex H H') (h : LookAt cP cC cS H pp pr po d o) : LookAt cP cC cS H' pp pr po d o :=
  ⟨h.pls.mono mono_pl e, h.prs.mono mono_pr e, e _ _ h.ord, h.is, h.nc, h.np, h.ah, h.am⟩
def spWrongWith (cP cC cS : Addr) : Sp := fun vs H Q _ => ∃ (pp pr po ps : Addr) (d : Uw03.Day) (o : List Nat), vs = [.ref pp, .ref pr, .ref po, .ref ps] ∧ LookAt cP cC cS H pp pr po d o ∧ RepL (RSy cS) H ps (staysOf d o) ∧
  ∀ p H', H p = none → Ex H H' → H' p = some (.lst (vi (wrongTold (d.wrong o)))) → Q (.ref p) H'
abbrev nWrongWith : List Str := ["players", "pairs", "order", "stays", "number", "who", "player", "stay", "kind"]
theorem sc_wrong_with : FnScope nWrongWith ["players", "pairs", "order", "stays"] (defScope xWrongWith) := ⟨rfl, rfl, rfl, by decide +kernel, rfl, by decide +kernel, by decide +kernel⟩
theorem kindAt_of {d : Uw03.Day} {o : List Nat} {i : Nat} {p : Uw03.Player} (h : d.players[i]? = some p) : kindAt d o i = kindOf p (syIn d o i) := by
  unfold kindAt
  rw [h]
theorem ok_wrong_with {f : Addr} {fd : FuncData} (F : Fun K "wrong_with" "wrong_with" xWrongWith f fd) (T : Txt K mg cP cC cS cD) (c1 : Cal P w K mg base "pair_behind" 1 ["pairs", "order"] spPairBehind) (c2 : Cal P w K mg base "stay_wrong" 1 ["player", "stay"] (spStayWrong cP cS)) :
    FnOk P w K mg base CX0 2 f fd ["players", "pairs", "order", "stays"] (spWrongWith cP cC cS) := by
  refine F.ok sc_wrong_with (fun vs H Q E h => ?_) (fun cdv A outer s H vs Q E hr h => ?_)
  · obtain ⟨pp, pr, po, ps, d, o, rfl, _⟩ := h
    rfl
  · obtain ⟨pp, pr, po, ps, d, o, rfl, hL, hst, q⟩ := h
    have nd := sc_wrong_with.nd
    obtain ⟨pws, hp1, hp2, hp3⟩ := id hL.pls
    obtain ⟨sws, hs1, hs2, hs3⟩ := id hst
    rw [staysOf_len] at hs2
    refine ⟨_, pss_cons (ps_set (i := 4) nd rfl (.inl rfl) (pe_cal c1 hr (pa_cons (pv 1) (pa_cons (pv 2) pa_nil))))
      (pss_cons (ps_if (pt_cmpR op_notN (pv 4) pe_non (nomark _)) (pss_one (ps_ret (pe_lst (pa_cons (pe_gv T.vBehind) (pa_cons (pv 4) pa_nil))))) pss_nil)
      (pss_cons (ps_for PassesOwn.never rfl (pi_enum_zip (by rfl) T.zEnum (by rfl) T.zZip (pa_cons (pv 0) (pa_cons (pv 3) pa_nil))) (pg_tup rfl (pgs_cons (pg_name (i := 5) nd rfl (Or.inl rfl)) (pgs_cons (pg_tup rfl (pgs_cons (pg_name (i := 6) nd rfl (Or.inl rfl)) (pgs_cons (pg_name (i := 7) nd rfl (Or.inl rfl)) pgs_nil))) pgs_nil)))
        (pss_cons (ps_set (i := 8) nd rfl (.inl rfl) (pe_cal c2 hr (pa_cons (pv 6) (pa_cons (pv 7) pa_nil))))
        (pss_one (ps_if (pt_cmpR op_gt (pv 8) pe_int (nomark _)) (pss_one (ps_ret (pe_lst (pa_cons (pv 8) (pa_cons (pv 5) pa_nil))))) pss_nil))))
      (pss_one (ps_ret (pe_lst pa_nil))))), ?_⟩
    refine q_asgP (P := fun v _ => v = (match d.ahead.findIdx? (behind o) with | some i => V.int (i : Nat) | none => .non)) (ep_call (ea_cons (ev_var rfl) (ea_cons (ev_var rfl) ea_nil)) fun G1 e1 Q1 q1 E1 => ⟨pr, po, d.ahead, o, rfl, hL.prs.mono mono_pr e1, e1 _ _ hL.ord, hL.is.nd, by rw [hL.is.len]; exact hL.nc, fun x hx => ⟨isOrd_mem hL.is _ (hL.ah x hx).1, isOrd_mem hL.is _ (hL.ah x hx).2⟩, hL.am, fun v G2 e2 hv => q1 v G2 e2 hv⟩) fun v H1 e1 hv => ?_
    cases hfi : d.ahead.findIdx? (behind o) with
    | some n =>
      rw [hfi] at hv
      subst hv
      refine q_when (et_test (ev_op (ev_var rfl) ev_c rv_notN)) (fun _ H2 e2 => ?_) (fun hN H2 e2 => by cases hN)
      have z := wrong_pair hfi
      rw [z] at q
      exact s_retL (el_lst (ea_cons ev_c (ea_cons (ev_var rfl) ea_nil)) (by show 2 ≤ 100000; decide)) fun p H3 hp e3 h3 => q p H3 (fresh_back (e1.trans e2) hp) ((e1.trans e2).trans e3) h3
    | none =>
      rw [hfi] at hv
      subst hv
      refine q_when (et_test (ev_op (ev_var rfl) ev_c rv_notN)) (fun hN H2 e2 => by cases hN) (fun _ H2 e2 => ?_)
      have e12 := e1.trans e2
      refine q_forW (iw_ez (n := d.players.length) (xs := pws) (ys := sws) (fun G1 e Q1 q1 => (ea_cons (ev_var rfl) (ea_cons (ev_var rfl) ea_nil)) G1 e Q1 fun G2 e3 => q1 _ G2 e3 ⟨pp, ps, rfl, sq_of (e3 _ _ (e _ _ (e12 _ _ hp1))), sq_of (e3 _ _ (e _ _ (e12 _ _ hs1)))⟩) (by omega))
        (fun Hb i σ' H' => ∃ y5 y6 y7 y8 : Option V, σ' = [some (.ref pp), some (.ref pr), some (.ref po), some (.ref ps), some .non, y5, y6, y7, y8] ∧ Ex Hb H' ∧ ∀ j, j < i → kindAt d o j = 0)
        (fun H3 e3 => ⟨none, none, none, none, rfl, Ex.refl _, fun j hj => absurd hj (Nat.not_lt_zero j)⟩) (fun Hb i σ' H' ⟨_, _, _, _, _, e, _⟩ => e) (fun i x σ' Hb H3 H4 hi eb p y => ?_) (fun σ' Hb H' eb p => ?_)
      · obtain ⟨y5, y6, y7, y8, rfl, e, hno⟩ := p
        obtain ⟨T', U, x1, x2, rfl, hU, hT, rfl, hx1, hx2⟩ := y
        have eU := Ex.new (o := .tup [x1, x2]) hU
        have eT := Ex.new (o := .tup [.int (i : Nat), .ref U]) hT
        have eAll : Ex H (upd (upd H3 U (.tup [x1, x2])) T' (.tup [.int (i : Nat), .ref U])) := (((e12.trans eb).trans e).trans eU).trans eT
        have pm : d.players[i]? = some d.players[i] := List.getElem?_eq_getElem hi
        have hk := kindAt_of (o := o) pm
        refine g_pair3 upd_same (eT _ _ upd_same) (q_asgP (P := fun v _ => v = .int (kindAt d o i : Nat)) (ep_call (ea_cons (ev_var rfl) (ea_cons (ev_var rfl) ea_nil)) fun G1 e5 Q1 q1 E1 => ⟨x1, x2, d.players[i], syIn d o i, rfl, mono_pl _ _ _ _ (eAll.trans e5) (hp3 i _ _ pm hx1), mono_sy _ _ _ _ (eAll.trans e5) (hs3 i _ _ (staysOf_get hi) hx2), fun G2 e6 => q1 _ G2 e6 (by rw [hk])⟩) fun v H5 e5 hv => ?_)
        subst hv
        refine s_when (et_test (ev_op (ev_var rfl) ev_c rv_I0)) (fun hc H6 e6 => ?_) (fun hc H6 e6 => ?_)
        · have c : 0 < kindAt d o i := by have := of_decide_eq_true hc; omega
          have z := wrong_who hfi hi hno c
          rw [z] at q
          exact s_retL (el_lst (ea_cons (ev_var rfl) (ea_cons (ev_var rfl) ea_nil)) (by show 2 ≤ 100000; decide)) fun p H7 hp e7 h7 => q p H7 (fresh_back ((eAll.trans e5).trans e6) hp) (((eAll.trans e5).trans e6).trans e7) h7
        · have c : kindAt d o i = 0 := by have := of_decide_eq_false hc; omega
          refine ⟨_, _, _, _, rfl, (((e.trans eU).trans eT).trans e5).trans e6, fun j hj => ?_⟩
          by_cases cj : j < i
          · exact hno j cj
          · have ej : j = i := by omega
            rw [ej]
            exact c
      · obtain ⟨y5, y6, y7, y8, rfl, e, hno⟩ := p
        have z := wrong_none hfi hno
        rw [z] at q
        exact s_retL (el_lst ea_nil (by decide)) fun p H7 hp e7 h7 => q p H7 (fresh_back ((e12.trans eb).trans e) hp) (((e12.trans eb).trans e).trans e7) h7

/-! ### all_orders -/
theorem RepL.app {α : Type} {R : α → V → Hp → Prop} {H : Hp} {p b : Addr} {xs zs : List α} (off : Off R p) (h : RepL R H p xs) {acc ys : List V} (ha : H p = some (.lst acc)) (h2 : RepL R H b zs) (hb : H b = some (.lst ys)) : RepL R (upd H p (.lst (acc ++ ys))) p (xs ++ zs) := by
  obtain ⟨vs, h1, h2', h3⟩ := h
  have ev : vs = acc := by
    rw [h1] at ha
    cases ha
    rfl
  subst ev
  obtain ⟨us, g1, g2, g3⟩ := h2
  have eu : us = ys := by
    rw [g1] at hb
    cases hb
    rfl
  subst eu
  refine ⟨_, upd_same, by rw [List.length_append, List.length_append, h2', g2], fun i y v hy hv => ?_⟩
  by_cases c : i < xs.length
  · rw [List.getElem?_append_left c] at hy
    rw [List.getElem?_append_left (by omega)] at hv
    exact off _ _ _ _ _ h1 (h3 i y v hy hv)
  · rw [List.getElem?_append_right (by omega)] at hy
    rw [List.getElem?_append_right (by omega), h2'] at hv
    exact off _ _ _ _ _ h1 (g3 _ y v hy hv)
theorem s_extP {σ : L2.St} {H : Hp} {ta te : TE} {P : V → Hp → Prop} {D : Ends} {l : Addr} {acc : List V} (hl : H l = some (.lst acc)) (ha : Ev ta σ H (.ref l)) (h : EvP te σ H P) (k : ∀ v H1, Ex H H1 → P v H1 → ∃ b ys, v = .ref b ∧ H1 b = some (.lst ys) ∧ acc.length + ys.length ≤ sizeLine ∧ D.nx σ (upd H1 l (.lst (acc ++ ys)))) :
    tDrop (tBM K "list" rExtend ta (tCons te tNil)) D σ H :=
  ha H (Ex.refl H) _ fun H1 e1 => ⟨.inl ⟨rfl, acc, sq_of (e1 _ _ hl)⟩, h H1 e1 _ fun v H2 e2 p => let ⟨b, ys, ev, hb, hz, q⟩ := k v H2 (e1.trans e2) p; ⟨l, b, acc, ys, rfl, by rw [ev], e2 _ _ (e1 _ _ hl), hb, hz, q⟩⟩
theorem ep_ofLn {te : TE} {σ : L2.St} {H : Hp} {xs : List V} (h : EvL te σ H xs) : EvP te σ H (fun v H1 => ∃ p, v = .ref p ∧ H p = none ∧ H1 p = some (.lst xs)) := fun H1 e Q q => h H1 e Q fun p H2 hp e2 h2 => q _ H2 e2 ⟨p, rfl, fresh_back e hp, h2⟩
theorem ep_lst1 {te : TE} {σ : L2.St} {H : Hp} {P : V → Hp → Prop} (m : ∀ x G G', Ex G G' → P x G → P x G') (h : EvP te σ H P) : EvP (tLst (tCons te tNil)) σ H (fun v H1 => ∃ p x, v = .ref p ∧ H p = none ∧ H1 p = some (.lst [x]) ∧ P x H1) := fun H1 e Q q =>
  h H1 e _ fun x H2 e2 px => ⟨(by show 1 ≤ sizeLine; decide), fun p hp => q _ _ (e2.trans (Ex.new hp)) ⟨p, x, rfl, fresh_back (e.trans e2) hp, upd_same, m _ _ _ (Ex.new hp) px⟩⟩
def spAllOrders : Sp := fun vs H Q _ => ∃ n : Nat, vs = [.int (n : Int)] ∧ n ≤ 6 ∧ ∀ p H', H p = none → Ex H H' → RepL (ROr H) H' p (ordIt n n) → Q (.ref p) H'
abbrev nAllOrders : List Str := ["many", "found", "place", "longer", "order", "piece"]
theorem sc_all_orders : FnScope nAllOrders ["many"] (defScope xAllOrders) := ⟨rfl, rfl, rfl, by decide +kernel, rfl, by decide +kernel, by decide +kernel⟩
theorem ext_given (n : Nat) (o : List Nat) : givenD n (fun i => !(o.contains i)) (fun i => o ++ [i]) = ext n o := rfl
theorem ok_all_orders {f : Addr} {fd : FuncData} (F : Fun K "all_orders" "all_orders" xAllOrders f fd) (T : Txt K mg cP cC cS cD) : FnOk P w K mg base CX0 1 f fd ["many"] spAllOrders := by
  refine F.ok sc_all_orders (fun vs H Q E h => ?_) (fun cdv A outer s H vs Q E hr h => ?_)
  · obtain ⟨n, rfl, _⟩ := h
    rfl
  · obtain ⟨n, rfl, hn, q⟩ := h
    have nd := sc_all_orders.nd
    refine ⟨_, pss_cons (ps_set (i := 1) nd rfl (.inl rfl) (pe_lst (pa_cons (pe_lst pa_nil) pa_nil)))
      (pss_cons (ps_for PassesOwn.never rfl (pi_range1 rfl T.zRange (pa_cons (pv 0) pa_nil)) (pg_name (i := 2) nd rfl (.inl rfl))
        (pss_cons (ps_set (i := 3) nd rfl (.inl rfl) (pe_lst pa_nil))
        (pss_cons (ps_for PassesOwn.never rfl (pi_list (pv 1)) (pg_name (i := 4) nd rfl (.inr rfl))
          (pss_one (ps_expr (pe_bm PySem.F.plainAttrs_list PySem.F.slot_list_extend PySem.F.type_list_extend mt_extend (pv 3) (pa_cons (by exact pe_lc (own := [("piece", 5)]) (g := gName 5) (tt := tTest (tOp (rIn K true) (tVar 5) (tVar 4))) (te := tOp rCat (tVar 4) (tLst (tCons (tVar 5) tNil))) rfl nd (pi_range1 rfl T.zRange (pa_cons (pv 0) pa_nil)) (blkOk_by (N := nAllOrders) (sc := defScope xAllOrders) (by decide +kernel)) (fun _ _ _ _ _ => pg_name (i := 5) nd rfl (Or.inl rfl)) (fun _ _ _ _ _ => pts_one (pt_cmpR op_notIn_seq (pv 5) (pv 4) (by rfl))) (fun _ _ _ _ _ => pe_op op_cat (pv 4) (pe_lst (pa_cons (pv 5) pa_nil)))) pa_nil)))))
        (pss_one (ps_set (i := 1) nd rfl (.inl rfl) (pv 3))))))
      (pss_one (ps_ret (pv 1)))), ?_⟩
    -- found = [[]]
    refine q_asgP (ep_lst1 (fun x G G' e ⟨p, a, b, c⟩ => ⟨p, a, b, e _ _ c⟩) (ep_ofLn (el_lst ea_nil (by decide)))) fun v H1 e1 ⟨pf, x0, ev, hpf, hpf1, po, ex, hpo0, hpo1⟩ => ?_
    have hrep : RepL (ROr H) H1 pf (ordIt n 0) := ⟨[x0], hpf1, rfl, fun i x v hx hv => by
      cases i with
      | succ j => simp at hv
      | zero =>
        have a : x = [] := (Option.some.inj hx).symm
        have b : v = x0 := (Option.some.inj hv).symm
        rw [a, b]
        exact ⟨po, ex, hpo0, hpo1⟩⟩
    subst ev
    refine q_forR1 (n := (n : Int)) (ea_cons (ev_var rfl) ea_nil) (by omega) (fun k σ' H' => ∃ (pf : Addr) (y2 y3 y4 : Option V), σ' = [some (.int (n : Int)), some (.ref pf), y2, y3, y4, none] ∧ Ex H H' ∧ H pf = none ∧ RepL (ROr H) H' pf (ordIt n k))
      (fun H2 e2 => ⟨pf, none, none, none, rfl, e1.trans e2, hpf, hrep.mono mono_or e2⟩) (fun k σ' Hc hk p => ?_) (fun σ' H' p => ?_)
    · obtain ⟨pf, y2, y3, y4, rfl, ec, hpf, hrep⟩ := p
      have hkn : k < n := by omega
      -- longer = []
      refine q_asgL (el_lst ea_nil (by decide)) fun pl G1 hpl eG hG => ?_
      obtain ⟨vs, hv1, hv2, hv3⟩ := id hrep
      refine q_forLn (K := K) (a := pf) (xs := vs) (ev_var rfl) (sq_of (eG _ _ hv1)) (fun i σ' H' => ∃ y4 : Option V, σ' = [some (.int (n : Int)), some (.ref pf), some (.int (k : Int)), some (.ref pl), y4, none] ∧ Ex Hc H' ∧ (∀ r, H' r = none → G1 r = none) ∧ RepL (ROr G1) H' pl (((ordIt n k).take i).flatMap (ext n)))
        (fun H2 e2 => ⟨y4, rfl, eG.trans e2, fun r hr2 => fresh_back e2 hr2, rep_nil (e2 _ _ hG)⟩) (fun i σ' H' _ ⟨_, _, e, _⟩ => sq_of (e _ _ hv1)) (fun i x σ' H' hx p => ?_) (fun σ' H' p => ?_)
      · obtain ⟨y4', rfl, e, hdom, hacc⟩ := p
        obtain ⟨o, ho, hor⟩ := hrep.get' hv1 hx
        obtain ⟨po, rfl, hpo0, hpo⟩ := hor
        obtain ⟨acc, ha1, ha2, _⟩ := id hacc
        have hom := ordIt_mem n k o (List.mem_of_getElem? ho)
        have hoL := e _ _ hpo
        refine s_extP ha1 (ev_var rfl) (ep_lc (R := fun G => ROr G) (d := fun i => o ++ [i]) (f := fun i => !(o.contains i)) (iw_rng (ea_cons (ev_var rfl) ea_nil) (by omega)) (by omega) (tgm_name 5) (fun G => mono_or) (fun G D hD => off_or hD) (fun j x G H1 H2 hj e1 hfr y => ?_)) (fun v H1 e1 hv => ?_)
        · obtain ⟨rfl, rfl⟩ := y
          refine ⟨rfl, Ex.refl _, et_is (et_test (ev_op (ev_var rfl) (ev_var rfl) (rv_niL (sq_of (e1 _ _ hoL)) rfl (vi_flat o)))) (by rw [inV_vi]), fun _ => ?_⟩
          intro G3 e3 Q3 q3
          refine (el_cat (xs := vi o) (ys := [.int (j : Int)]) (ep_ref (ev_var rfl) (e1 _ _ hoL)) (fun G4 e4 => ep_ofL (el_lst (ea_cons (ev_var rfl) ea_nil) (by show 1 ≤ 100000; decide))) (by rw [vi_len]; show o.length + 1 ≤ 100000; omega)) G3 e3 Q3 fun p G4 hp e4 h4 => q3 _ G4 e4 ⟨p, rfl, hfr p (fresh_back e3 hp), ?_⟩
          rw [h4, vi_app]
          rfl
        · obtain ⟨b, G, rfl, hb, eG2, hrb⟩ := hv
          rw [ext_given] at hrb
          obtain ⟨ys, hy1, hy2, hy3⟩ := id hrb
          have hrb' : RepL (ROr G1) H1 b (ext n o) := hrb.imp fun x v ⟨p, h1, h2, h3⟩ => ⟨p, h1, hdom p (fresh_back eG2 h2), h3⟩
          have hpl1 : ¬ G1 pl = none := by rw [hG]; exact fun z => nomatch z
          refine ⟨b, ys, rfl, hy1, ?_, _, rfl, Ex.mut (e.trans e1) hpl, fun r hr2 => ?_, ?_⟩
          · rw [ha2, hy2]
            have l1 := len_flatMap_le (ext_len n) ((ordIt n k).take i)
            have l2 := ext_len n o
            have l3 : ((ordIt n k).take i).length ≤ 46656 := by
              rw [List.length_take]
              have := ordIt_small (n := n) (k := k) hn (by omega)
              omega
            have l4 : ((ordIt n k).take i).length * n ≤ 46656 * 6 := Nat.mul_le_mul l3 hn
            exact Nat.le_trans (Nat.add_le_add (Nat.le_trans l1 l4) (Nat.le_trans l2 hn)) (by decide)
          · by_cases c : r = pl
            · rw [c, upd_same] at hr2
              cases hr2
            · rw [upd_ne c] at hr2
              exact hdom r (fresh_back e1 hr2)
          · have z : ((ordIt n k).take (i + 1)).flatMap (ext n) = ((ordIt n k).take i).flatMap (ext n) ++ ext n o := by
              rw [List.take_add_one, ho, List.flatMap_append]
              show _ ++ [o].flatMap (ext n) = _
              rw [List.flatMap_singleton]
            rw [z]
            exact (hacc.mono mono_or e1).app (off_or hpl1) (e1 _ _ ha1) hrb' hy1
      · obtain ⟨y4', rfl, e, hdom, hacc⟩ := p
        rw [hv2, List.take_length] at hacc
        refine s_asg (ev_var rfl) fun H2 e2 => ⟨pl, _, _, _, rfl, (ec.trans e).trans e2, fresh_back ec hpl, (RepL.imp (fun x v ⟨p, h1, h2, h3⟩ => ⟨p, h1, fresh_back (ec.trans eG) h2, h3⟩) hacc).mono mono_or e2⟩
    · obtain ⟨pf, y2, y3, y4, rfl, ec, hpf, hrep⟩ := p
      rw [Int.toNat_natCast] at hrep
      exact s_ret (ev_var rfl) fun H1 e1 => q pf H1 hpf (ec.trans e1) (hrep.mono mono_or e1)
end
end Reh
end RdWrong
section RdDay
/-! A day's own methods that change it. -/
namespace Reh
open PySem PySem.Spec PyProof.Rows L2 Evl

/-! ### what a call of a day is worth -/
/-- what stands but for the day's own, and where its lists are from now on -/
structure Frame (H H' : Hp) (a pl pc pr pl' pc' pr' : Addr) : Prop where
  keep : ∀ b o, H b = some o → b ≠ a → b ≠ pl → b ≠ pc → b ≠ pr → H' b = some o
  l1 : pl' = pl ∨ H pl' = none
  l2 : pc' = pc ∨ H pc' = none
  l3 : pr' = pr ∨ H pr' = none
theorem Frame.ex {H H' : Hp} {a pl pc pr : Addr} (e : Ex H H') : Frame H H' a pl pc pr pl pc pr := ⟨fun b o h _ _ _ _ => e b o h, .inl rfl, .inl rfl, .inl rfl⟩
def vz (l : List Int) : List V := l.map V.int
def outOf (d : Uw03.Day) (c : Uw03.Call) : List Int := Uw03Neutral.out (Uw03.step d c).2
/-- a method that does a call: Args tells which, by its arguments -/
def spCall (cP cC cD : Addr) (Args : List V → Hp → Uw03.Call → Prop) : Sp := fun vs H Q _ => ∃ (a pl pc pr : Addr) (N : List Addr) (ws : List V) (d : Uw03.Day) (m : Nat) (c : Uw03.Call), vs = .ref a :: ws ∧ DayAt cP cC cD N H a pl pc pr d ∧ Good d m ∧ m ≤ 40000 ∧ Args ws H c ∧
  ∀ p H' pl' pc' pr', H p = none → H' p = some (.lst (vz (outOf d c))) → DayAt cP cC cD N H' a pl' pc' pr' (Uw03.step d c).1 → Frame H H' a pl pc pr pl' pc' pr' → Q (.ref p) H'
section
variable {P : Program} {w : World} {K : PySem.W.Frag} {mg : Str → Option Value} {base : Heap} {cP cC cS cD : Addr}
/-- one number answered -/
theorem out_ok (z : Int) : Uw03Neutral.out (Uw03.ok z) = [z] := rfl
theorem RepL.stay {α : Type} {R : α → V → Hp → Prop} {H : Hp} {p q : Addr} {xs : List α} {acc : List V} {o : HO} (off : Off R q) (hq : H q = some (.lst acc)) (hne : p ≠ q) (h : RepL R H p xs) : RepL R (upd H q o) p xs := by
  obtain ⟨vs, h1, h2, h3⟩ := h
  exact ⟨vs, by rw [upd_ne hne]; exact h1, h2, fun i x v a b => off _ _ _ _ _ hq (h3 i x v a b)⟩
theorem ev_neE {ta tb : TE} {σ : L2.St} {H : Hp} {p : Addr} {xs : List V} (ha : Ev ta σ H (.ref p)) (hp : H p = some (.lst xs)) (hb : EvL tb σ H []) : Ev (tOp (rNeE K) ta tb) σ H (.bl (!xs.isEmpty)) := fun H1 e Q q =>
  ha H1 e _ fun H2 e2 => hb H2 (e.trans e2) _ fun r H3 _ e3 h3 => ⟨p, r, xs, rfl, rfl, sq_of (e3 _ _ (e2 _ _ (e _ _ hp))), sq_of h3, q H3 (e2.trans e3)⟩
theorem ev_eqE {ta tb : TE} {σ : L2.St} {H : Hp} {p : Addr} {xs : List V} (ha : Ev ta σ H (.ref p)) (hp : H p = some (.lst xs)) (hb : EvL tb σ H []) : Ev (tOp (rEqE K) ta tb) σ H (.bl xs.isEmpty) := fun H1 e Q q =>
  ha H1 e _ fun H2 e2 => hb H2 (e.trans e2) _ fun r H3 _ e3 h3 => ⟨p, r, xs, rfl, rfl, sq_of (e3 _ _ (e2 _ _ (e _ _ hp))), sq_of h3, q H3 (e2.trans e3)⟩
theorem empty_iff {α β : Type} {vs : List α} {xs : List β} (h : vs.length = xs.length) : vs.isEmpty = xs.isEmpty := by
  cases vs <;> cases xs <;> first | rfl | (simp at h)
/-- self.f = [] -/
theorem s_fldNil {σ : L2.St} {H : Hp} {D : Ends} {a C dx : Addr} {fs : List (Str × V)} {f : Str} (hs : σ[0]? = some (some (.ref a))) (ho : H a = some (.ins C dx fs)) (hc : Cls K C) (hn : NoAttr K C f) (hl : fs.length < 1000)
    (k : ∀ p, H p = none → D.nx σ (upd (upd H p (.lst [])) a (.ins C dx (putF f (.ref p) fs)))) : sFld K (tVar 0) (tLst tNil) f D σ H :=
  ⟨Nat.zero_le _, fun p hp => ⟨_, hs, a, C, dx, fs, rfl, (Ex.new hp) _ _ ho, hc, hn, hl, k p hp⟩⟩
theorem put3' {a b c : Str} {x y z u v t : V} (h1 : ¬ a = b) (h2 : ¬ a = c) (h3 : ¬ b = c) : putF c t (putF b v (putF a u (f3 a b c [x, y, z]))) = f3 a b c [u, v, t] := by
  have e1 : putF a u (f3 a b c [x, y, z]) = [(a, u), (b, y), (c, z)] := put_here
  have e2 : putF b v [(a, u), (b, y), (c, z)] = [(a, u), (b, v), (c, z)] := (put_past h1).trans (congrArg _ put_here)
  have e3 : putF c t [(a, u), (b, v), (c, z)] = [(a, u), (b, v), (c, t)] := (put_past h2).trans (congrArg _ ((put_past h3).trans (congrArg _ put_here)))
  rw [e1, e2, e3]
  rfl
theorem len_putF_le (f : Str) (v : V) : ∀ fs : List (Str × V), (putF f v fs).length ≤ fs.length + 1
  | [] => Nat.le_refl _
  | (g, x) :: r => by
    unfold putF
    by_cases h : g = f
    · rw [if_pos h, List.length_cons, List.length_cons]; omega
    · rw [if_neg h, List.length_cons, List.length_cons]
      have := len_putF_le f v r
      omega
/-- the three lists made anew -/
theorem day_anew {N : List Addr} {H : Hp} {a dx p1 p2 p3 : Addr} {F1 F2 : List (Str × V)} {o0 : HO} (oc : ∀ b ∈ N, ∃ o, H b = some o) (ha : H a = some o0) (h1 : H p1 = none) (h2 : upd (upd H p1 (.lst [])) a (.ins cD dx F1) p2 = none) (h3 : upd (upd (upd (upd H p1 (.lst [])) a (.ins cD dx F1)) p2 (.lst [])) a (.ins cD dx F2) p3 = none) :
    ∀ H', H' = upd (upd (upd (upd (upd (upd H p1 (.lst [])) a (.ins cD dx F1)) p2 (.lst [])) a (.ins cD dx F2)) p3 (.lst [])) a (.ins cD dx (fD [.ref p1, .ref p2, .ref p3])) →
    DayAt cP cC cD N H' a p1 p2 p3 Uw03.init ∧ H p2 = none ∧ H p3 = none ∧ ∀ b o, H b = some o → b ≠ a → H' b = some o := by
  rintro H' rfl
  have n1 : p1 ≠ a := fun z => by rw [z, ha] at h1; cases h1
  have n2 : p2 ≠ a := fun z => by rw [z, upd_same] at h2; cases h2
  have n3 : p3 ≠ a := fun z => by rw [z, upd_same] at h3; cases h3
  have m12 : p1 ≠ p2 := fun z => by rw [← z, upd_ne n1, upd_same] at h2; cases h2
  have m13 : p1 ≠ p3 := fun z => by rw [← z, upd_ne n1, upd_ne m12, upd_ne n1, upd_same] at h3; cases h3
  have m23 : p2 ≠ p3 := fun z => by rw [← z, upd_ne n2, upd_same] at h3; cases h3
  have g2 : H p2 = none := by rw [upd_ne n2, upd_ne m12.symm] at h2; exact h2
  have g3 : H p3 = none := by rw [upd_ne n3, upd_ne m23.symm, upd_ne n3, upd_ne m13.symm] at h3; exact h3
  refine ⟨⟨⟨dx, upd_same⟩, rep_nil ?_, rep_nil ?_, rep_nil ?_, m12, m13, m23, occ_upd (occ_upd (occ_upd (occ_upd (occ_upd (occ_upd oc)))))⟩, g2, g3, fun b o hb hba => ?_⟩
  · rw [upd_ne n1, upd_ne m13, upd_ne n1, upd_ne m12, upd_ne n1, upd_same]
  · rw [upd_ne n2, upd_ne m23, upd_ne n2, upd_same]
  · rw [upd_ne n3, upd_same]
  · rw [upd_ne hba, upd_ne (ne_of_none hb g3), upd_ne hba, upd_ne (ne_of_none hb g2), upd_ne hba, upd_ne (ne_of_none hb h1)]
    exact hb

/-! ### Day() -/
def spDayInit (cP cC cD : Addr) : Sp := fun vs H Q _ => ∃ a dx : Addr, vs = [.ref a] ∧ H a = some (.ins cD dx []) ∧ ∀ H' pl pc pr, DayAt cP cC cD [] H' a pl pc pr Uw03.init → H pl = none → H pc = none → H pr = none → (∀ b o, H b = some o → b ≠ a → H' b = some o) → Q .non H'
theorem sc_day_init : FnScope ["self"] ["self"] (defScope (xDay 0)) := ⟨rfl, rfl, rfl, by decide +kernel, rfl, by decide +kernel, by decide +kernel⟩
theorem ok_day_init {f : Addr} {fd : FuncData} (F : Fun K "__init__" "Day.__init__" (xDay 0) f fd) (T : Txt K mg cP cC cS cD) : FnOk P w K mg base CX0 1 f fd ["self"] (spDayInit cP cC cD) := by
  refine F.ok sc_day_init (fun vs H Q E h => ?_) (fun cdv A outer s H vs Q E hr h => ?_)
  · obtain ⟨a, dx, rfl, _⟩ := h
    rfl
  · obtain ⟨a, dx, rfl, ho, q⟩ := h
    refine ⟨_, pss_cons (ps_fld (pv 0) (pe_lst pa_nil) rfl) (pss_cons (ps_fld (pv 0) (pe_lst pa_nil) rfl) (pss_one (ps_fld (pv 0) (pe_lst pa_nil) rfl))), ?_⟩
    refine s_fldNil (D := { nx := _, rt := _ }) rfl ho T.clD T.dPl (by show 0 < 1000; decide) fun p1 h1 => ?_
    refine s_fldNil (D := { nx := _, rt := _ }) rfl upd_same T.clD T.dPc (by show 1 < 1000; decide) fun p2 h2 => ?_
    refine s_fldNil rfl upd_same T.clD T.dPr (Nat.lt_of_le_of_lt (len_putF_le _ _ _) (by show 1 + 1 < 1000; decide)) fun p3 h3 => ?_
    rw [put3 (by decide +kernel) (by decide +kernel) (by decide +kernel)]
    obtain ⟨g0, g2, g3, gk⟩ := day_anew (cP := cP) (cC := cC) (N := []) (fun _ z => absurd z List.not_mem_nil) ho h1 h2 h3 _ rfl
    exact q _ p1 p2 p3 g0 h1 g2 g3 gk

/-! ### begins -/
def ArgsBegins : List V → Hp → Uw03.Call → Prop := fun ws _ c => ws = [] ∧ c = .begins
theorem sc_begin : FnScope ["self"] ["self"] (defScope (xDay 1)) := ⟨rfl, rfl, rfl, by decide +kernel, rfl, by decide +kernel, by decide +kernel⟩
theorem ok_begin {f : Addr} {fd : FuncData} (F : Fun K "begin" "Day.begin" (xDay 1) f fd) (T : Txt K mg cP cC cS cD) : FnOk P w K mg base CX0 1 f fd ["self"] (spCall cP cC cD ArgsBegins) := by
  refine F.ok sc_begin (fun vs H Q E h => ?_) (fun cdv A outer s H vs Q E hr h => ?_)
  · obtain ⟨a, pl, pc, pr, N, ws, d, m, c, rfl, _, _, _, ⟨rfl, _⟩, _⟩ := h
    rfl
  · obtain ⟨a, pl, pc, pr, N, ws, d, m, c, rfl, hd, hg, hm, ⟨rfl, rfl⟩, q⟩ := h
    obtain ⟨dx, ho⟩ := hd.obj
    refine ⟨_, pss_cons (ps_fld (pv 0) (pe_lst pa_nil) rfl) (pss_cons (ps_fld (pv 0) (pe_lst pa_nil) rfl) (pss_cons (ps_fld (pv 0) (pe_lst pa_nil) rfl) (pss_one (ps_ret (pe_lst (pa_cons pe_int pa_nil)))))), ?_⟩
    refine s_fldNil (D := { nx := _, rt := _ }) rfl ho T.clD T.dPl (by show 3 < 1000; decide) fun p1 h1 => ?_
    refine s_fldNil (D := { nx := _, rt := _ }) rfl upd_same T.clD T.dPc (Nat.lt_of_le_of_lt (len_putF_le _ _ _) (by show 3 + 1 < 1000; decide)) fun p2 h2 => ?_
    refine s_fldNil (D := { nx := _, rt := _ }) rfl upd_same T.clD T.dPr (Nat.lt_of_le_of_lt (len_putF_le _ _ _) (Nat.lt_of_le_of_lt (Nat.add_le_add_right (len_putF_le _ _ _) 1) (by show 3 + 1 + 1 < 1000; decide))) fun p3 h3 => ?_
    rw [put3' (by decide +kernel) (by decide +kernel) (by decide +kernel)]
    obtain ⟨g0, g2, g3, gk⟩ := day_anew (cP := cP) (cC := cC) hd.occ ho h1 h2 h3 _ rfl
    refine s_retL (σ := [some (.ref a)]) (el_lst (ea_cons ev_c ea_nil) (by show 1 ≤ 100000; decide)) fun p H' hp e h' => q p H' p1 p2 p3 ?_ h' (g0.mono e) ⟨fun b o hb ha _ _ _ => e _ _ (gk b o hb ha), .inr h1, .inr g2, .inr g3⟩
    cases z : H p with
    | none => rfl
    | some o =>
      by_cases c : p = a
      · rw [c, upd_same] at hp
        cases hp
      · rw [gk p o z c] at hp
        cases hp

/-! ### player -/
def ArgsPlayer : List V → Hp → Uw03.Call → Prop := fun ws _ c => ∃ r s t : Nat, ws = [.int (r : Int), .int (s : Int), .int (t : Int)] ∧ c = .player ⟨r, s, t⟩
theorem sc_add_player : FnScope ["self", "cost", "since", "till"] ["self", "cost", "since", "till"] (defScope (xDay 2)) := ⟨rfl, rfl, rfl, by decide +kernel, rfl, by decide +kernel, by decide +kernel⟩
theorem rv_eqI {i j : Int} {H : Hp} : RV rEq (.int i) (.int j) H (.bl (decide (i = j))) := by
  have e : decide (i = j) = decide (V.int i = V.int j) := by
    by_cases c : i = j
    · rw [decide_eq_true c, decide_eq_true (congrArg V.int c)]
    · rw [decide_eq_false c, decide_eq_false fun z => c (V.int.inj z)]
  rw [e]
  exact rv_eq rfl
/-- the answer of one number, nothing changed -/
theorem s_one {σ : L2.St} {H H0 : Hp} {D : Ends} {te : TE} {z : Int} {N : List Addr} {a pl pc pr : Addr} {d : Uw03.Day} {c : Uw03.Call} {Q : VK} (hD : D.rt = Q) (e0 : Ex H0 H) (hd : DayAt cP cC cD N H0 a pl pc pr d) (hs : Uw03.step d c = (d, Uw03.ok z)) (h : Ev te σ H (.int z))
    (q : ∀ p H' pl' pc' pr', H0 p = none → H' p = some (.lst (vz (outOf d c))) → DayAt cP cC cD N H' a pl' pc' pr' (Uw03.step d c).1 → Frame H0 H' a pl pc pr pl' pc' pr' → Q (.ref p) H') : tRet (tLst (tCons te tNil)) D σ H := by
  refine s_retL (el_lst (ea_cons h ea_nil) (by show 1 ≤ 100000; decide)) fun p H' hp e h' => ?_
  rw [hD]
  refine q p H' pl pc pr (fresh_back e0 hp) ?_ (by rw [hs]; exact hd.mono (e0.trans e)) (Frame.ex (e0.trans e))
  unfold outOf
  rw [hs]
  exact h'
/-- the answer of one number behind an append to one of the day's lists -/
theorem s_grown {σ : L2.St} {H0 H4 : Hp} {D : Ends} {te : TE} {z : Int} {N : List Addr} {a pl pc pr l : Addr} {d d' : Uw03.Day} {c : Uw03.Call} {Q : VK} {o : HO} (hD : D.rt = Q) (e0 : Ex H0 H4) (hl : l = pl ∨ l = pc ∨ l = pr) (hd : DayAt cP cC cD N (upd H4 l o) a pl pc pr d') (hs : Uw03.step d c = (d', Uw03.ok z))
    (h : Ev te σ (upd H4 l o) (.int z))
    (q : ∀ p H' pl' pc' pr', H0 p = none → H' p = some (.lst (vz (outOf d c))) → DayAt cP cC cD N H' a pl' pc' pr' (Uw03.step d c).1 → Frame H0 H' a pl pc pr pl' pc' pr' → Q (.ref p) H') : tRet (tLst (tCons te tNil)) D σ (upd H4 l o) := by
  refine s_retL (el_lst (ea_cons h ea_nil) (by show 1 ≤ 100000; decide)) fun p H' hp e h' => ?_
  rw [hD]
  have np : p ≠ l := fun z => by rw [z, upd_same] at hp; cases hp
  refine q p H' pl pc pr (fresh_back e0 (by rw [upd_ne np] at hp; exact hp)) ?_ (by rw [hs]; exact hd.mono e) ⟨fun b u hb _ n1 n2 n3 => e _ _ ?_, .inl rfl, .inl rfl, .inl rfl⟩
  · unfold outOf
    rw [hs]
    exact h'
  · have nb : b ≠ l := fun z => by
      rcases hl with y | y | y
      · exact n1 (z.trans y)
      · exact n2 (z.trans y)
      · exact n3 (z.trans y)
    rw [upd_ne nb]
    exact e0 _ _ hb
theorem ok_add_player {f : Addr} {fd : FuncData} (F : Fun K "add_player" "Day.add_player" (xDay 2) f fd) (T : Txt K mg cP cC cS cD) (c1 : CalC P w K mg base "Player" cP 1 ["self", "cost", "since", "till"] (spFields cP fP 3)) :
    FnOk P w K mg base CX0 3 f fd ["self", "cost", "since", "till"] (spCall cP cC cD ArgsPlayer) := by
  refine F.ok sc_add_player (fun vs H Q E h => ?_) (fun cdv A outer s H vs Q E hr h => ?_)
  · obtain ⟨a, pl, pc, pr, N, ws, d, m, c, rfl, _, _, _, ⟨r, s, t, rfl, _⟩, _⟩ := h
    rfl
  · obtain ⟨a, pl, pc, pr, N, ws, d, m, c, rfl, hd, hg, hm, ⟨cr, cs, ct, rfl, rfl⟩, q⟩ := h
    obtain ⟨dx, ho⟩ := hd.obj
    obtain ⟨lv, hl1, hl2, hl3⟩ := id hd.pls
    obtain ⟨cv, hc1, hc2, hc3⟩ := id hd.pcs
    refine ⟨_, pss_cons (ps_if (PW.pt (pw_or (pt_cmpR op_gt (pv 1) (pe_gv T.vCost) (nomark _)) (pw_or (pt_cmpR op_lt (pv 3) (pv 2) (nomark _)) (pw_or1 (pt_cmpR op_gt (pv 3) (pe_gv T.vLast) (nomark _)))))) (pss_one (ps_ret (pe_lst (pa_cons (pe_gv T.vBad) pa_nil)))) pss_nil)
      (pss_cons (ps_if (pt_cmpR (op_neE (hu_of hr |> Nat.lt_of_succ_lt)) (pe_fld (pv 0) rfl) (pe_lst pa_nil) (nomark _)) (pss_one (ps_ret (pe_lst (pa_cons (pe_gv T.vPieces) pa_nil)))) pss_nil)
      (pss_cons (ps_if (pt_cmpR op_eq (pe_callB call_len_seq (by rfl) T.zLen PySem.boot_len (pa_cons (pe_fld (pv 0) rfl) pa_nil)) (pe_gv T.vMost) (nomark _)) (pss_one (ps_ret (pe_lst (pa_cons (pe_gv T.vNoRoom) pa_nil)))) pss_nil)
      (pss_cons (ps_expr (pe_bm PySem.F.plainAttrs_list PySem.F.slot_list_append PySem.F.type_list_append mt_append (pe_fld (pv 0) rfl) (pa_cons (pe_calc c1 hr (pa_cons (pv 1) (pa_cons (pv 2) (pa_cons (pv 3) pa_nil)))) pa_nil)))
      (pss_one (ps_ret (pe_lst (pa_cons (pe_op op_sub (pe_callB call_len_seq (by rfl) T.zLen PySem.boot_len (pa_cons (pe_fld (pv 0) rfl) pa_nil)) pe_int) pa_nil))))))), ?_⟩
    have st0 : Uw03.step d (.player ⟨cr, cs, ct⟩) = if 1000 < cr ∨ ct < cs ∨ 3600 < ct then (d, Uw03.ok (-1)) else if d.pieces ≠ [] then (d, Uw03.ok (-4)) else if 6 ≤ d.players.length then (d, Uw03.ok (-5)) else ({ d with players := d.players ++ [⟨cr, cs, ct⟩] }, Uw03.ok (d.players.length : Nat)) := rfl
    refine q_when (b := decide (1000 < cr ∨ ct < cs ∨ 3600 < ct)) (et_is (et_or (et_test (ev_op (ev_var rfl) ev_c rv_I0)) fun _ => et_or (et_test (ev_op (ev_var rfl) (ev_var rfl) rv_I0)) fun _ => et_test (ev_op (ev_var rfl) ev_c rv_I0)) (by rw [Bool.eq_iff_iff]; simp; omega)) (fun hb H1 e1 => ?_) (fun hb H1 e1 => ?_)
    · have c := of_decide_eq_true hb
      exact s_one rfl e1 hd (by rw [st0, if_pos c]) ev_c q
    have c := of_decide_eq_false hb
    rw [if_neg c] at st0
    refine q_when (b := !d.pieces.isEmpty) (et_is (et_test (ev_neE (ev_fld (ev_var rfl) (e1 _ _ ho) T.clD T.dPc fD_pc) (e1 _ _ hc1) (el_lst ea_nil (by decide)))) (by rw [empty_iff hc2])) (fun hb2 H2 e2 => ?_) (fun hb2 H2 e2 => ?_)
    · have c2 : d.pieces ≠ [] := fun z => by rw [z] at hb2; cases hb2
      exact s_one rfl (e1.trans e2) hd (by rw [st0, if_pos c2]) ev_c q
    have c2 : ¬ d.pieces ≠ [] := fun z => by
      cases y : d.pieces with
      | nil => exact z y
      | cons _ _ => rw [y] at hb2; cases hb2
    rw [if_neg c2] at st0
    have e12 := e1.trans e2
    refine q_when (b := decide (6 ≤ d.players.length)) (et_is (et_test (ev_op (ev_len (ev_fld (ev_var rfl) (e12 _ _ ho) T.clD T.dPl fD_pl) (sq_of (e12 _ _ hl1))) ev_c rv_eqI)) (by rw [hl2]; have := hg.np; rw [Bool.eq_iff_iff]; simp; omega)) (fun hb3 H3 e3 => ?_) (fun hb3 H3 e3 => ?_)
    · have c3 := of_decide_eq_true hb3
      exact s_one rfl (e12.trans e3) hd (by rw [st0, if_pos c3]) ev_c q
    have c3 := of_decide_eq_false hb3
    rw [if_neg c3] at st0
    have e13 := e12.trans e3
    have hd3 := hd.mono e13
    refine s_appP (D := { nx := _, rt := _ }) (e13 _ _ hl1) (ev_fld (ev_var rfl) (e13 _ _ ho) T.clD T.dPl fD_pl) (P := RPl cP ⟨cr, cs, ct⟩) (ep_make (ea_p (ea_cons (ev_var rfl) (ea_cons (ev_var rfl) (ea_cons (ev_var rfl) ea_nil)))) (fun vs _ z => by rw [z]; rfl) fun vs G1 G2 aS dxS _ _ z hS => by rw [z] at hS; exact ⟨aS, dxS, rfl, hS⟩) (by rw [hl2]; have := hg.np; omega) fun v H4 e4 hv => ?_
    have hd4 := hd3.mono e4
    have e14 := e13.trans e4
    obtain ⟨dx4, ho4⟩ := hd4.obj
    have hl4 := e14 _ _ hl1
    have na : a ≠ pl := ne_of ho4 hl4 (fun z => nomatch z)
    have hd5 : DayAt cP cC cD N (upd H4 pl (.lst (lv ++ [v]))) a pl pc pr { d with players := d.players ++ [⟨cr, cs, ct⟩] } :=
      ⟨⟨dx4, by rw [upd_ne na]; exact ho4⟩, hd4.pls.snoc off_pl hl4 hv, hd4.pcs.stay (off_pc (by simp)) hl4 hd.n1.symm, hd4.prs.stay off_pr hl4 hd.n2.symm, hd.n1, hd.n2, hd.n3, occ_upd hd4.occ⟩
    obtain ⟨dx5, ho5⟩ := hd5.obj
    refine s_grown rfl e14 (.inl rfl) hd5 st0 (ev_is (ev_op (ev_len (ev_fld (ev_var rfl) ho5 T.clD T.dPl fD_pl) (sq_of upd_same)) ev_c rv_I0) (congrArg V.int ?_)) q
    rw [List.length_append, hl2]
    show ((d.players.length + 1 : Nat) : Int) - 1 = (d.players.length : Int)
    omega

/-! ### are_players -/
def RBl (b : Bool) (v : V) (_ : Hp) : Prop := v = .bl b
theorem mono_bl : Mono RBl := fun _ _ _ _ _ h => h
theorem off_bl {p : Addr} : Off RBl p := fun _ _ _ _ _ _ h => h
theorem rep_bl {H : Hp} {p : Addr} {l : List Bool} (h : RepL RBl H p l) : H p = some (.lst (l.map V.bl)) := by
  obtain ⟨vs, h1, h2, h3⟩ := h
  have e : vs = l.map V.bl := by
    refine List.ext_getElem? fun i => ?_
    by_cases c : i < l.length
    · have hx : l[i]? = some l[i] := List.getElem?_eq_getElem c
      have hv : vs[i]? = some vs[i] := List.getElem?_eq_getElem (by omega)
      rw [List.getElem?_map, hx, hv, h3 i _ _ hx hv]
      rfl
    · rw [List.getElem?_eq_none (by omega), List.getElem?_eq_none (by rw [List.length_map]; omega)]
  rw [h1, e]
theorem ev_any {te : TE} {σ : L2.St} {H : Hp} {bs : List Bool} (h : EvP te σ H (fun v H1 => ∃ p, v = .ref p ∧ H1 p = some (.lst (bs.map V.bl)))) : Ev (tCB (rAny K) (tCons te tNil)) σ H (.bl (bs.any id)) := fun H1 e Q q =>
  h H1 e _ fun v H2 e2 ⟨a, ev, ha⟩ => ⟨a, bs, by rw [ev], sq_of ha, q H2 e2⟩
theorem ev_all {te : TE} {σ : L2.St} {H : Hp} {bs : List Bool} (h : EvP te σ H (fun v H1 => ∃ p, v = .ref p ∧ H1 p = some (.lst (bs.map V.bl)))) : Ev (tCB (rAll K) (tCons te tNil)) σ H (.bl (bs.all id)) := fun H1 e Q q =>
  h H1 e _ fun v H2 e2 ⟨a, ev, ha⟩ => ⟨a, bs, by rw [ev], sq_of ha, q H2 e2⟩
def playersOk (n : Nat) (l : List Nat) : Bool := (l.all fun a => decide (a < n)) && Uw03.rising l
theorem range_getD {β : Type} (f : Nat → β) (l : List Nat) : ((List.range l.length).map fun i => f (l.getD i 0)) = l.map f := by
  refine List.ext_getElem? fun i => ?_
  by_cases c : i < l.length
  · rw [List.getElem?_map, List.getElem?_map, List.getElem?_range c, List.getElem?_eq_getElem c]
    show some (f (l.getD i 0)) = some (f l[i])
    rw [List.getD_eq_getElem?_getD, List.getElem?_eq_getElem c]
    rfl
  · rw [List.getElem?_eq_none (by rw [List.length_map, List.length_range]; omega), List.getElem?_eq_none (by rw [List.length_map]; omega)]
theorem any_not (n : Nat) (l : List Nat) : (((List.range l.length).map fun i => decide (n ≤ l.getD i 0)).any id) = !(l.all fun a => decide (a < n)) := by
  rw [range_getD fun a => decide (n ≤ a)]
  induction l with
  | nil => rfl
  | cons x l ih =>
    rw [List.map_cons, List.any_cons, List.all_cons, Bool.not_and, ih]
    congr 1
    show decide (n ≤ x) = !decide (x < n)
    by_cases c : n ≤ x
    · rw [decide_eq_true c, decide_eq_false (by omega)]; rfl
    · rw [decide_eq_false c, decide_eq_true (by omega)]; rfl
def spArePlayers (cP cC cD : Addr) : Sp := fun vs H Q _ => ∃ (a pl pc pr : Addr) (N : List Addr) (po : Addr) (d : Uw03.Day) (l : List Nat), vs = [.ref a, .ref po] ∧ DayAt cP cC cD N H a pl pc pr d ∧ H po = some (.lst (vi l)) ∧ l.length ≤ 20 ∧ ∀ H', Ex H H' → Q (.bl (playersOk d.players.length l)) H'
abbrev nArePlayers : List Str := ["self", "some", "one", "other"]
theorem sc_are_players : FnScope nArePlayers ["self", "some"] (defScope (xDay 3)) := ⟨rfl, rfl, rfl, by decide +kernel, rfl, by decide +kernel, by decide +kernel⟩
theorem cut_tail (l : List Nat) : cutV (vi l) (some 1) none = vi (l.drop 1) := by
  unfold cutV
  have e1 : HT.sIx (vi l).length 0 (some 1) = min 1 (vi l).length := HT.sIx_nat _ _ 1
  rw [e1, HT.sIx_none, vi_len]
  cases l with
  | nil => rfl
  | cons x l =>
    have e2 : min 1 (x :: l).length = 1 := by rw [List.length_cons]; omega
    rw [e2]
    show (vi l).take ((x :: l).length - 1) = vi l
    rw [List.length_cons, Nat.add_sub_cancel, ← vi_len l, List.take_length]
theorem ok_are_players {f : Addr} {fd : FuncData} (F : Fun K "are_players" "Day.are_players" (xDay 3) f fd) (T : Txt K mg cP cC cS cD) : FnOk P w K mg base CX0 1 f fd ["self", "some"] (spArePlayers cP cC cD) := by
  refine F.ok sc_are_players (fun vs H Q E h => ?_) (fun cdv A outer s H vs Q E hr h => ?_)
  · obtain ⟨a, pl, pc, pr, N, po, d, l, rfl, _⟩ := h
    rfl
  · obtain ⟨a, pl, pc, pr, N, po, d, l, rfl, hd, hl, hz, q⟩ := h
    have nd := sc_are_players.nd
    obtain ⟨dx, ho⟩ := hd.obj
    obtain ⟨lv, hl1, hl2, hl3⟩ := id hd.pls
    refine ⟨_, pss_cons (ps_if (pt_val (pe_callB (cr_any rfl) (by rfl) T.zAny (by decide +kernel) (pa_cons (by exact pe_lc (own := [("one", 2)]) (g := gName 2) (tt := tYes) (te := tOp (rI0 fun i j => .bl (decide (j ≤ i))) (tVar 2) (tCB (rLenS K) (tCons (tFld K (tVar 0) "players") tNil))) rfl nd (pi_list (pv 1)) (blkOk_by (N := nArePlayers) (sc := defScope (xDay 3)) (by decide +kernel)) (fun _ _ _ _ _ => pg_name (i := 2) nd rfl (Or.inl rfl)) (fun _ _ _ _ _ => pts_nil) (fun _ _ _ _ _ => pe_cmpR op_ge (pv 2) (pe_callB call_len_seq (by rfl) T.zLen PySem.boot_len (pa_cons (pe_fld (pv 0) rfl) pa_nil)) (nomark _))) pa_nil))) (pss_one (ps_ret pe_bl)) pss_nil)
      (pss_one (ps_ret (pe_callB (cr_all rfl) (by rfl) T.zAll (by decide +kernel) (pa_cons (by exact pe_lc (own := [("one", 2), ("other", 3)]) (g := gTup K 2 (gCons (gName 2) (gCons (gName 3) gNil))) (tt := tYes) (te := tOp (rI0 fun i j => .bl (decide (i < j))) (tVar 2) (tVar 3)) rfl nd (pi_zip (by rfl) T.zZip (pa_cons (pv 1) (pa_cons (pe_slice sl_list (pv 1) (po_some pe_int) po_none) pa_nil))) (blkOk_by (N := nArePlayers) (sc := defScope (xDay 3)) (by decide +kernel)) (fun _ _ _ _ _ => pg_tup rfl (pgs_cons (pg_name (i := 2) nd rfl (Or.inl rfl)) (pgs_cons (pg_name (i := 3) nd rfl (Or.inl rfl)) pgs_nil))) (fun _ _ _ _ _ => pts_nil) (fun _ _ _ _ _ => pe_cmpR op_lt (pv 2) (pv 3) (nomark _))) pa_nil)))), ?_⟩
    refine q_when (b := !(l.all fun a => decide (a < d.players.length))) (et_is (et_B (ev_any (bs := givenD l.length (fun _ => true) fun i => decide (d.players.length ≤ l.getD i 0)) ((ep_lcC (R := RBl) (by have z := iw_list (K := K) (σ := L2.start nArePlayers [.ref a, .ref po]) (tl := tVar 1) (ev_var rfl) (sq_of hl); rw [vi_len] at z; exact z) (by omega) (tgm_name 2) mono_bl (fun _ => off_bl) (fun i x H1 H2 hi e1 y => ?_)).imp fun v H1 _ ⟨p, h1, _, h3⟩ => ⟨p, h1, rep_bl h3⟩))) (by rw [givenD_all, any_not])) (fun hb H1 e1 => ?_) (fun hb H1 e1 => ?_)
    · obtain ⟨rfl, hx⟩ := y
      obtain ⟨n, hn, rfl⟩ := vi_of hx
      have eg : l.getD i 0 = n := by rw [List.getD_eq_getElem?_getD, hn]; rfl
      refine ⟨rfl, Ex.refl _, et_yes, fun _ => ep_of (ev_is (ev_op (ev_var rfl) (ev_len (ev_fld (ev_var rfl) (e1 _ _ ho) T.clD T.dPl fD_pl) (sq_of (e1 _ _ hl1))) rv_I0) (congrArg V.bl ?_)) fun _ _ => rfl⟩
      rw [hl2, eg, Bool.eq_iff_iff]
      simp
    · refine s_ret ev_c fun H2 e2 => ?_
      have z := q H2 (e1.trans e2)
      unfold playersOk at z
      rw [Bool.not_eq_true'] at hb
      rw [hb] at z
      exact z
    · have hall : (l.all fun a => decide (a < d.players.length)) = true := by
        cases z : l.all fun a => decide (a < d.players.length) with
        | true => rfl
        | false => rw [z] at hb; cases hb
      refine s_ret (ev_is (ev_all (bs := givenD (l.length - 1) (fun _ => true) fun i => decide (l.getD i 0 < l.getD (i + 1) 0)) ((ep_lcC (R := RBl) (iw_zip (n := l.length - 1) (xs := vi l) (ys := vi (l.drop 1)) (fun G1 e Q1 q1 => ?_) (by rw [vi_len, vi_len, List.length_drop]; omega)) (by omega) (tgm_tup (tgsm_cons (tgm_name 2) (tgsm_cons (tgm_name 3) tgsm_nil))) mono_bl (fun _ => off_bl) (fun i x H2 H3 hi e2 y => ?_)).imp fun v H2 _ ⟨p, h1, _, h3⟩ => ⟨p, h1, rep_bl h3⟩)) ?_) fun H2 e2 => q H2 (e1.trans e2)
      · refine (ev_var (i := 1) rfl) G1 e _ fun G2 e2 => (el_sl (ev_var (i := 1) rfl) (eo_some ev_c) eo_none (sq_of ((e1.trans e) _ _ hl) : SqL K G1 po (vi l))) G2 e2 _ fun p G3 hp e3 h3 => q1 _ G3 (e2.trans e3) ⟨po, p, rfl, sq_of (e3 _ _ (e2 _ _ (e _ _ (e1 _ _ hl)))), sq_of (by rw [h3, cut_tail])⟩
      · obtain ⟨T', x1, x2, rfl, hT, rfl, hx1, hx2⟩ := y
        obtain ⟨n1, hn1, rfl⟩ := vi_of hx1
        obtain ⟨n2, hn2, rfl⟩ := vi_of hx2
        rw [List.getElem?_drop, Nat.add_comm] at hn2
        have eg1 : l.getD i 0 = n1 := by rw [List.getD_eq_getElem?_getD, hn1]; rfl
        have eg2 : l.getD (i + 1) 0 = n2 := by rw [List.getD_eq_getElem?_getD, hn2]; rfl
        refine g_pair upd_same ⟨rfl, Ex.new hT, et_yes, fun _ => ep_of (ev_is (ev_op (ev_var rfl) (ev_var rfl) rv_I0) (congrArg V.bl ?_)) fun _ _ => rfl⟩
        rw [eg1, eg2, Bool.eq_iff_iff]
        simp
      · rw [givenD_all]
        have z : ((List.range (l.length - 1)).map fun i => decide (l.getD i 0 < l.getD (i + 1) 0)) = steps l := rfl
        rw [z, steps_all]
        unfold playersOk
        rw [hall]
        rfl
end
end Reh
end RdDay
section RdPiece
/-! piece, ahead, stays. -/
namespace Reh
open PySem PySem.Spec PyProof.Rows L2 Evl
section
variable {P : Program} {w : World} {K : PySem.W.Frag} {mg : Str → Option Value} {base : Heap} {cP cC cS cD : Addr}
theorem room65 {k : Nat} {A : Around} (hr : Room k A) : A.units + 65 < cLine := by
  have := hr.un
  omega
theorem ev_chain {r r' : R2} {ta tb tc : TE} {σ : L2.St} {H : Hp} {x y z : V} {k k' : Bool} (ha : Ev ta σ H x) (hb : Ev tb σ H y) (hr : RV r x y H (.bl k)) (hc : k = true → Ev tc σ H z) (hr' : k = true → RV r' y z H (.bl k')) : Ev (tChain r r' ta tb tc) σ H (.bl (k && k')) := fun H1 e Q q =>
  ha H1 e _ fun H2 e2 => hb H2 (e.trans e2) _ fun H3 e3 => hr H3 ((e.trans e2).trans e3) _ fun H4 e4 => ⟨k, rfl, by
    cases k with
    | false => exact iteF (q H4 ((e2.trans e3).trans e4))
    | true => exact iteT (hc rfl H4 (((e.trans e2).trans e3).trans e4) _ fun H5 e5 => hr' rfl H5 ((((e.trans e2).trans e3).trans e4).trans e5) _ fun H6 e6 => q H6 ((((e2.trans e3).trans e4).trans e5).trans e6))⟩

/-! ### piece -/
def ArgsPiece : List V → Hp → Uw03.Call → Prop := fun ws H c => ∃ (n : Nat) (l : List Nat) (po : Addr), ws = [.int (n : Int), .ref po] ∧ H po = some (.lst (vi l)) ∧ l.length ≤ 20 ∧ c = .piece n l
theorem sc_add_piece : FnScope ["self", "minutes", "some"] ["self", "minutes", "some"] (defScope (xDay 4)) := ⟨rfl, rfl, rfl, by decide +kernel, rfl, by decide +kernel, by decide +kernel⟩
theorem sp_are_players {H : Hp} {N : List Addr} {a pl pc pr po : Addr} {d : Uw03.Day} {l : List Nat} (hd : DayAt cP cC cD N H a pl pc pr d) (ho : H po = some (.lst (vi l))) (hz : l.length ≤ 20) : SpP (spArePlayers cP cC cD) [.ref a, .ref po] H (fun v _ => v = .bl (playersOk d.players.length l)) :=
  fun H1 e Q q E => ⟨a, pl, pc, pr, N, po, d, l, rfl, hd.mono e, e _ _ ho, hz, fun H2 e2 => q _ H2 e2 rfl⟩
theorem ok_add_piece {f : Addr} {fd : FuncData} (F : Fun K "add_piece" "Day.add_piece" (xDay 4) f fd) (T : Txt K mg cP cC cS cD) (c1 : CalM P w K mg base cD "are_players" 1 ["self", "some"] (spArePlayers cP cC cD)) (c2 : CalC P w K mg base "Piece" cC 1 ["self", "minutes", "players"] (spFields cC fC 2)) :
    FnOk P w K mg base CX0 3 f fd ["self", "minutes", "some"] (spCall cP cC cD ArgsPiece) := by
  refine F.ok sc_add_piece (fun vs H Q E h => ?_) (fun cdv A outer s H vs Q E hr h => ?_)
  · obtain ⟨a, pl, pc, pr, N, ws, d, m, c, rfl, _, _, _, ⟨n, l, po, rfl, _⟩, _⟩ := h
    rfl
  · obtain ⟨a, pl, pc, pr, N, ws, d, m, c, rfl, hd, hg, hm, ⟨n, l, po, rfl, hpo, hz, rfl⟩, q⟩ := h
    obtain ⟨dx, ho⟩ := hd.obj
    obtain ⟨lv, hl1, hl2, hl3⟩ := id hd.pls
    obtain ⟨cv, hc1, hc2, hc3⟩ := id hd.pcs
    refine ⟨_, pss_cons (ps_if (PW.pt (pw_or (pt_not (pt_chain op_le op_le pe_int (pv 1) (pe_gv T.vMinutes))) (pw_or1 (pt_not (pt_val (pe_calm (pv 0) T.clD c1 (hr.mono (by decide)) (pa_cons (pv 2) pa_nil))))))) (pss_one (ps_ret (pe_lst (pa_cons (pe_gv T.vBad) pa_nil)))) pss_nil)
      (pss_cons (ps_if (pt_cmpR op_eq (pe_callB call_len_seq (by rfl) T.zLen PySem.boot_len (pa_cons (pe_fld (pv 0) rfl) pa_nil)) (pe_gv T.vMost) (nomark _)) (pss_one (ps_ret (pe_lst (pa_cons (pe_gv T.vNoRoom) pa_nil)))) pss_nil)
      (pss_cons (ps_expr (pe_bm PySem.F.plainAttrs_list PySem.F.slot_list_append PySem.F.type_list_append mt_append (pe_fld (pv 0) rfl) (pa_cons (pe_calc c2 hr (pa_cons (pv 1) (pa_cons (pe_callTy call_list_of (by rfl) T.zList (by decide +kernel) (pa_cons (pv 2) pa_nil)) pa_nil))) pa_nil)))
      (pss_one (ps_ret (pe_lst (pa_cons (pe_op op_sub (pe_callB call_len_seq (by rfl) T.zLen PySem.boot_len (pa_cons (pe_fld (pv 0) rfl) pa_nil)) pe_int) pa_nil)))))), ?_⟩
    have st0 : Uw03.step d (.piece n l) = if n < 1 ∨ 600 < n ∨ Uw03.rising l = false ∨ (l.all fun a => decide (a < d.players.length)) = false then (d, Uw03.ok (-1)) else if 6 ≤ d.pieces.length then (d, Uw03.ok (-5)) else ({ d with pieces := d.pieces ++ [⟨n, l⟩] }, Uw03.ok (d.pieces.length : Nat)) := rfl
    refine q_when (b := decide (n < 1 ∨ 600 < n ∨ Uw03.rising l = false ∨ (l.all fun a => decide (a < d.players.length)) = false)) (et_is (et_or (et_not (et_test (ev_chain ev_c (ev_var rfl) rv_I0 (fun _ => ev_c) fun _ => rv_I0))) fun _ => et_not (et_B (ev_of (ep_meth (ev_var rfl) ho (f3_none (by decide +kernel) (by decide +kernel) (by decide +kernel)) (ea_cons (ev_var rfl) ea_nil) (sp_are_players hd hpo hz)) fun v _ _ e => e))) ?_) (fun hb H1 e1 => ?_) (fun hb H1 e1 => ?_)
    · unfold playersOk
      generalize Uw03.rising l = r1
      generalize (l.all fun a => decide (a < d.players.length)) = r2
      rw [Bool.eq_iff_iff]
      cases r1 <;> cases r2 <;> simp <;> omega
    · have c := of_decide_eq_true hb
      exact s_one rfl e1 hd (by rw [st0, if_pos c]) ev_c q
    have c := of_decide_eq_false hb
    rw [if_neg c] at st0
    refine q_when (b := decide (6 ≤ d.pieces.length)) (et_is (et_test (ev_op (ev_len (ev_fld (ev_var rfl) (e1 _ _ ho) T.clD T.dPc fD_pc) (sq_of (e1 _ _ hc1))) ev_c rv_eqI)) (by rw [hc2]; have := hg.nc; rw [Bool.eq_iff_iff]; simp; omega)) (fun hb3 H3 e3 => ?_) (fun hb3 H3 e3 => ?_)
    · have c3 := of_decide_eq_true hb3
      exact s_one rfl (e1.trans e3) hd (by rw [st0, if_pos c3]) ev_c q
    have c3 := of_decide_eq_false hb3
    rw [if_neg c3] at st0
    have e13 := e1.trans e3
    have hd3 := hd.mono e13
    refine s_appP (D := { nx := _, rt := _ }) (e13 _ _ hc1) (ev_fld (ev_var rfl) (e13 _ _ ho) T.clD T.dPc fD_pc) (P := RPcN (pl :: pc :: pr :: N) cC ⟨n, l⟩) (ep_make (PA := fun vs G => ∃ q, vs = [.int (n : Int), .ref q] ∧ H3 q = none ∧ G q = some (.lst (vi l))) (eap_cons (P := fun v _ => v = .int (n : Int)) (ep_of (ev_var rfl) fun _ _ => rfl) (fun v G1 eg hv => eap_one ((ep_ofLn (el_list (ev_var rfl) (sq_of ((e13.trans eg) _ _ hpo)))).imp (P' := fun v G2 => ∃ p, v = .ref p ∧ H3 p = none ∧ G2 p = some (.lst (vi l))) fun v G2 _ ⟨p, a1, a2, a3⟩ => ⟨p, a1, fresh_back eg a2, a3⟩)) (fun v vs G1 G2 _ _ hv ⟨u, eu, p, a1, a2, a3⟩ => ⟨p, by rw [hv, eu, a1], a2, a3⟩))
      (fun vs _ ⟨_, z, _⟩ => by rw [z]; rfl) fun vs G1 G2 aS dxS _ eg ⟨q0, z, h0, h1⟩ hS => ?_) (by rw [hc2]; have := hg.nc; omega) fun v H4 e4 hv => ?_
    · rw [z] at hS
      refine ⟨aS, dxS, q0, rfl, fun hmem => ?_, hS, eg _ _ h1⟩
      have z : q0 = pl ∨ q0 = pc ∨ q0 = pr ∨ q0 ∈ N := by simpa using hmem
      obtain ⟨_, y1, _⟩ := hd3.pls
      obtain ⟨_, y2, _⟩ := hd3.pcs
      obtain ⟨_, y3, _⟩ := hd3.prs
      rcases z with z | z | z | z
      · rw [z, y1] at h0; cases h0
      · rw [z, y2] at h0; cases h0
      · rw [z, y3] at h0; cases h0
      · obtain ⟨u, y4⟩ := hd3.occ _ z
        rw [y4] at h0; cases h0
    have hd4 := hd3.mono e4
    have e14 := e13.trans e4
    obtain ⟨dx4, ho4⟩ := hd4.obj
    have hc4 := e14 _ _ hc1
    have na : a ≠ pc := ne_of ho4 hc4 (fun z => nomatch z)
    have hd5 : DayAt cP cC cD N (upd H4 pc (.lst (cv ++ [v]))) a pl pc pr { d with pieces := d.pieces ++ [⟨n, l⟩] } :=
      ⟨⟨dx4, by rw [upd_ne na]; exact ho4⟩, hd4.pls.stay off_pl hc4 hd.n1, hd4.pcs.snoc (off_pc (by simp)) hc4 hv, hd4.prs.stay off_pr hc4 hd.n3.symm, hd.n1, hd.n2, hd.n3, occ_upd hd4.occ⟩
    obtain ⟨dx5, ho5⟩ := hd5.obj
    refine s_grown rfl e14 (.inr (.inl rfl)) hd5 st0 (ev_is (ev_op (ev_len (ev_fld (ev_var rfl) ho5 T.clD T.dPc fD_pc) (sq_of upd_same)) ev_c rv_I0) (congrArg V.int ?_)) q
    rw [List.length_append, hc2]
    show ((d.pieces.length + 1 : Nat) : Int) - 1 = (d.pieces.length : Int)
    omega

/-! ### ahead -/
def pD (z : Nat × Nat) : PyData := .tuple [.int z.1, .int z.2]
theorem pD_lay (z : Nat × Nat) : (pD z).canLay0 = true := by simp [pD, PyData.canLay0, PyData.canLayAll0]
theorem pD_depth (z : Nat × Nat) : (pD z).depth = 1 := by simp [pD, PyData.depth, PyData.depthAll]
theorem pDs_lay : ∀ zs : List (Nat × Nat), PyData.canLayAll0 (zs.map pD) = true
  | [] => by simp [PyData.canLayAll0]
  | z :: zs => by simp [PyData.canLayAll0, pD_lay z, pDs_lay zs]
theorem pDs_depth : ∀ zs : List (Nat × Nat), PyData.depthAll (zs.map pD) ≤ 1
  | [] => by simp [PyData.depthAll]
  | z :: zs => by
    have h1 := pDs_depth zs
    have h2 := pD_depth z
    simp only [List.map_cons, PyData.depthAll]
    omega
theorem pD_shaped (z : Nat × Nat) : SeqAt.shaped (pD z) = true := by
  have h := pD_depth z
  exact Bool.and_eq_true_iff.mpr ⟨pD_lay z, decide_eq_true (by omega)⟩
theorem pDs_shaped (zs : List (Nat × Nat)) : SeqAt.shaped (.list (zs.map pD)) = true := by
  have h1 := pDs_depth zs
  have h2 : PyData.depth (.list (zs.map pD)) ≤ 64 := by
    simp only [PyData.depth]
    omega
  exact Bool.and_eq_true_iff.mpr ⟨by simp only [PyData.canLay0]; exact pDs_lay zs, decide_eq_true h2⟩
theorem pD_eqv (z y : Nat × Nat) : PyData.eqv (pD z) (pD y) = decide (y = z) := by
  obtain ⟨a, b⟩ := z
  obtain ⟨a', b'⟩ := y
  have e : PyData.eqv (pD (a, b)) (pD (a', b')) = (((a : Int) == (a' : Int)) && (((b : Int) == (b' : Int)) && true)) := by simp only [pD, PyData.eqv, PyData.eqvAll]
  rw [e, Bool.eq_iff_iff]
  simp
  omega
theorem pDs_any (x : Nat × Nat) : ∀ zs : List (Nat × Nat), ((zs.map pD).any fun z => PyData.eqv z (pD x)) = zs.contains x
  | [] => rfl
  | z :: zs => by
    rw [List.map_cons, List.any_cons, pDs_any x zs, pD_eqv, List.contains_cons]
    congr 1
    rw [Bool.eq_iff_iff]
    simp
theorem dp_pairs {H : Hp} : ∀ {xs : List (Nat × Nat)} {vs : List V}, vs.length = xs.length → (∀ (i : Nat) x v, xs[i]? = some x → vs[i]? = some v → RPr x v H) → DpAll K H vs (xs.map pD)
  | [], [], _, _ => .nil
  | x :: xs, v :: vs, hl, h => by
    obtain ⟨t, rfl, ht⟩ := h 0 x v rfl rfl
    exact .cons (.tup (st_of ht) (.cons (.int _) (.cons (.int _) .nil))) (dp_pairs (xs := xs) (vs := vs) (by simpa using hl) fun i y u a b => h (i + 1) y u a b)
theorem ev_inD {ta tb : TE} {σ : L2.St} {H : Hp} {pr : Addr} {x : Nat × Nat} {ah : List (Nat × Nat)} (ha : EvP ta σ H (RPr x)) (hb : ∀ H1, Ex H H1 → Ev tb σ H1 (.ref pr)) (hr : RepL RPr H pr ah) : Ev (tOp (rInD K) ta tb) σ H (.bl (ah.contains x)) := fun H1 e Q q =>
  ha H1 e _ fun v H2 e2 hx => hb H2 (e.trans e2) H2 (Ex.refl _) _ fun H3 e3 => by
    obtain ⟨vs, h1, h2, h3⟩ := hr.mono mono_pr ((e.trans e2).trans e3)
    obtain ⟨t, rfl, ht⟩ := mono_pr _ _ _ _ e3 hx
    refine ⟨pD x, ah.map pD, .tup (st_of ht) (.cons (.int _) (.cons (.int _) .nil)), .lst (sq_of h1) (dp_pairs h2 h3), pD_shaped x, pDs_shaped ah, ?_⟩
    rw [pDs_any]
    exact q H3 (e2.trans e3)
def ArgsAhead : List V → Hp → Uw03.Call → Prop := fun ws _ c => ∃ i j : Nat, ws = [.int (i : Int), .int (j : Int)] ∧ c = .ahead i j
theorem sc_add_pair : FnScope ["self", "one", "other"] ["self", "one", "other"] (defScope (xDay 5)) := ⟨rfl, rfl, rfl, by decide +kernel, rfl, by decide +kernel, by decide +kernel⟩
theorem ok_add_pair {f : Addr} {fd : FuncData} (F : Fun K "add_pair" "Day.add_pair" (xDay 5) f fd) (T : Txt K mg cP cC cS cD) : FnOk P w K mg base CX0 1 f fd ["self", "one", "other"] (spCall cP cC cD ArgsAhead) := by
  refine F.ok sc_add_pair (fun vs H Q E h => ?_) (fun cdv A outer s H vs Q E hr h => ?_)
  · obtain ⟨a, pl, pc, pr, N, ws, d, m, c, rfl, _, _, _, ⟨i, j, rfl, _⟩, _⟩ := h
    rfl
  · obtain ⟨a, pl, pc, pr, N, ws, d, m, c, rfl, hd, hg, hm, ⟨i, j, rfl, rfl⟩, q⟩ := h
    obtain ⟨dx, ho⟩ := hd.obj
    obtain ⟨cv, hc1, hc2, hc3⟩ := id hd.pcs
    obtain ⟨rv, hr1, hr2, hr3⟩ := id hd.prs
    refine ⟨_, pss_cons (ps_if (PW.pt (pw_or (pt_cmpR op_ge (pv 1) (pe_callB call_len_seq (by rfl) T.zLen PySem.boot_len (pa_cons (pe_fld (pv 0) rfl) pa_nil)) (nomark _)) (pw_or1 (pt_cmpR op_ge (pv 2) (pe_callB call_len_seq (by rfl) T.zLen PySem.boot_len (pa_cons (pe_fld (pv 0) rfl) pa_nil)) (nomark _))))) (pss_one (ps_ret (pe_lst (pa_cons (pe_gv T.vNoPiece) pa_nil)))) pss_nil)
      (pss_cons (ps_if (PW.pt (pw_or (pt_cmpR op_eq (pv 1) (pv 2) (nomark _)) (pw_or1 (pt_cmpR (op_inD (room65 hr)) (pe_tup (pa_cons (pv 1) (pa_cons (pv 2) pa_nil))) (pe_fld (pv 0) rfl) (by rfl))))) (pss_one (ps_ret (pe_lst (pa_cons (pe_gv T.vTold) pa_nil)))) pss_nil)
      (pss_cons (ps_expr (pe_bm PySem.F.plainAttrs_list PySem.F.slot_list_append PySem.F.type_list_append mt_append (pe_fld (pv 0) rfl) (pa_cons (pe_tup (pa_cons (pv 1) (pa_cons (pv 2) pa_nil))) pa_nil)))
      (pss_one (ps_ret (pe_lst (pa_cons (pe_callB call_len_seq (by rfl) T.zLen PySem.boot_len (pa_cons (pe_fld (pv 0) rfl) pa_nil)) pa_nil)))))), ?_⟩
    have st0 : Uw03.step d (.ahead i j) = if d.pieces.length ≤ i ∨ d.pieces.length ≤ j then (d, Uw03.ok (-2)) else if i = j ∨ d.ahead.contains (i, j) = true then (d, Uw03.ok (-3)) else ({ d with ahead := d.ahead ++ [(i, j)] }, Uw03.ok (d.ahead.length + 1 : Nat)) := rfl
    refine q_when (b := decide (d.pieces.length ≤ i ∨ d.pieces.length ≤ j)) (et_is (et_or (et_test (ev_op (ev_var rfl) (ev_len (ev_fld (ev_var rfl) ho T.clD T.dPc fD_pc) (sq_of hc1)) rv_I0)) fun _ => et_test (ev_op (ev_var rfl) (ev_len (ev_fld (ev_var rfl) ho T.clD T.dPc fD_pc) (sq_of hc1)) rv_I0)) (by rw [hc2, Bool.eq_iff_iff]; simp)) (fun hb H1 e1 => ?_) (fun hb H1 e1 => ?_)
    · have c := of_decide_eq_true hb
      exact s_one rfl e1 hd (by rw [st0, if_pos c]) ev_c q
    have c := of_decide_eq_false hb
    rw [if_neg c] at st0
    refine q_when (b := decide (i = j ∨ d.ahead.contains (i, j) = true)) (et_is (et_or (et_test (ev_op (ev_var rfl) (ev_var rfl) rv_eqI)) fun _ => et_test (ev_inD (x := (i, j)) ((el_tup (ea_cons (ev_var rfl) (ea_cons (ev_var rfl) ea_nil)) (by show 2 ≤ 100000; decide)).imp fun v G _ ⟨t, a1, a2⟩ => ⟨t, a1, a2⟩) (fun G eg => ev_fld (ev_var rfl) ((e1.trans eg) _ _ ho) T.clD T.dPr fD_pr) (hd.prs.mono mono_pr e1))) ?_) (fun hb3 H3 e3 => ?_) (fun hb3 H3 e3 => ?_)
    · generalize d.ahead.contains (i, j) = r1
      rw [Bool.eq_iff_iff]
      cases r1 <;> simp <;> omega
    · have c3 := of_decide_eq_true hb3
      exact s_one rfl (e1.trans e3) hd (by rw [st0, if_pos c3]) ev_c q
    have c3 := of_decide_eq_false hb3
    rw [if_neg c3] at st0
    have e13 := e1.trans e3
    have hd3 := hd.mono e13
    refine s_appP (D := { nx := _, rt := _ }) (e13 _ _ hr1) (ev_fld (ev_var rfl) (e13 _ _ ho) T.clD T.dPr fD_pr) (P := RPr (i, j)) ((el_tup (ea_cons (ev_var rfl) (ea_cons (ev_var rfl) ea_nil)) (by show 2 ≤ 100000; decide)).imp fun v G _ ⟨t, a1, a2⟩ => ⟨t, a1, a2⟩) (by rw [hr2]; have := hg.am; omega) fun v H4 e4 hv => ?_
    have hd4 := hd3.mono e4
    have e14 := e13.trans e4
    obtain ⟨dx4, ho4⟩ := hd4.obj
    have hr4 := e14 _ _ hr1
    have na : a ≠ pr := ne_of ho4 hr4 (fun z => nomatch z)
    have hd5 : DayAt cP cC cD N (upd H4 pr (.lst (rv ++ [v]))) a pl pc pr { d with ahead := d.ahead ++ [(i, j)] } :=
      ⟨⟨dx4, by rw [upd_ne na]; exact ho4⟩, hd4.pls.stay off_pl hr4 hd.n2, hd4.pcs.stay (off_pc (by simp)) hr4 hd.n3, hd4.prs.snoc off_pr hr4 hv, hd.n1, hd.n2, hd.n3, occ_upd hd4.occ⟩
    obtain ⟨dx5, ho5⟩ := hd5.obj
    refine s_grown rfl e14 (.inr (.inr rfl)) hd5 st0 (ev_is (ev_len (ev_fld (ev_var rfl) ho5 T.clD T.dPr fD_pr) (sq_of upd_same)) (congrArg V.int ?_)) q
    rw [List.length_append, hr2]
    rfl

/-! ### stays -/
def spStays (cP cC cS cD : Addr) : Sp := fun vs H Q _ => ∃ (a pl pc pr : Addr) (N : List Addr) (po : Addr) (d : Uw03.Day) (o : List Nat), vs = [.ref a, .ref po] ∧ DayAt cP cC cD N H a pl pc pr d ∧ H po = some (.lst (vi o)) ∧ (∀ x ∈ o, x < d.pieces.length) ∧ d.players.length ≤ 6 ∧
  ∀ p H', H p = none → Ex H H' → RepL (RSy cS) H' p (staysOf d o) → Q (.ref p) H'
theorem sc_stays : FnScope ["self", "order"] ["self", "order"] (defScope (xDay 6)) := ⟨rfl, rfl, rfl, by decide +kernel, rfl, by decide +kernel, by decide +kernel⟩
theorem ok_stays {f : Addr} {fd : FuncData} (F : Fun K "stays" "Day.stays" (xDay 6) f fd) (T : Txt K mg cP cC cS cD) (c1 : Cal P w K mg base "stays_in" 4 ["pieces", "order", "many"] (spStaysIn cC cS)) :
    FnOk P w K mg base CX0 5 f fd ["self", "order"] (spStays cP cC cS cD) := by
  refine F.ok sc_stays (fun vs H Q E h => ?_) (fun cdv A outer s H vs Q E hr h => ?_)
  · obtain ⟨a, pl, pc, pr, N, po, d, o, rfl, _⟩ := h
    rfl
  · obtain ⟨a, pl, pc, pr, N, po, d, o, rfl, hd, hpo, hlt, hn, q⟩ := h
    obtain ⟨dx, ho⟩ := hd.obj
    obtain ⟨lv, hl1, hl2, hl3⟩ := id hd.pls
    refine ⟨_, pss_one (ps_ret (pe_cal c1 hr (pa_cons (pe_fld (pv 0) rfl) (pa_cons (pv 1) (pa_cons (pe_callB call_len_seq (by rfl) T.zLen PySem.boot_len (pa_cons (pe_fld (pv 0) rfl) pa_nil)) pa_nil))))), ?_⟩
    refine s_retP (P := fun v H' => ∃ p, v = .ref p ∧ H p = none ∧ RepL (RSy cS) H' p (staysOf d o)) (ep_call (ea_cons (ev_fld (ev_var rfl) ho T.clD T.dPc fD_pc) (ea_cons (ev_var rfl) (ea_cons (ev_is (ev_len (ev_fld (ev_var rfl) ho T.clD T.dPl fD_pl) (sq_of hl1)) (by rw [hl2])) ea_nil))) fun H1 e Q1 q1 E1 => ⟨pc, po, d, o, d.players.length, rfl, (hd.pcs.mono mono_pc e).imp fun x v h => pc_forget h, e _ _ hpo, hlt, hn, fun p H2 hp e2 h2 => q1 _ H2 e2 ⟨p, rfl, fresh_back e hp, h2⟩⟩) fun v H1 e ⟨p, ev, hp, h1⟩ => by
      subst ev
      exact q p H1 hp e h1
end
end Reh
end RdPiece
section RdRight
/-! right_orders. -/
namespace Reh
open PySem PySem.Spec PyProof.Rows L2 Evl
theorem q_forLP {K : PySem.W.Frag} {tl : TE} {g : TG} {tu tz : TS} {D : Ends} {σ : L2.St} {H : Hp} {P : V → Hp → Prop} (h : EvP tl σ H P)
    (k : ∀ v H1, Ex H H1 → P v H1 → ∃ a xs, v = .ref a ∧ SqL K H1 a xs ∧ ∃ Pv : Nat → L2.St → Hp → Prop, Pv 0 σ H1 ∧ (∀ i σ' H', i ≤ xs.length → Pv i σ' H' → SqL K H' a xs) ∧
      (∀ i x σ' H', xs[i]? = some x → Pv i σ' H' → g x σ' H' fun σ2 H2 => tu { D with nx := Pv (i + 1), ct := Pv (i + 1), bk := tz D } σ2 H2) ∧ ∀ σ' H', Pv xs.length σ' H' → tz D σ' H') : tSeq (tFor (iList K tl) g tu) tz D σ H :=
  h H (Ex.refl H) _ fun v H1 e p => let ⟨a, xs, ev, hs, Pv, h0, hl, ht, hd⟩ := k v H1 e p; ⟨a, ev, ⟨xs, hs⟩, for_list (D := { D with nx := tz D }) Pv h0 hl ht hd⟩
/-- all but the list at p stands -/
def ExB (p : Addr) (H H' : Hp) : Prop := ∀ b o, H b = some o → b ≠ p → H' b = some o
theorem ExB.of {p : Addr} {H H' : Hp} (e : Ex H H') : ExB p H H' := fun b o h _ => e b o h
theorem ExB.trans {p : Addr} {H H1 H2 : Hp} (a : ExB p H H1) (b : ExB p H1 H2) : ExB p H H2 := fun c o h n => b c o (a c o h n) n
theorem ExB.upd {p : Addr} {H H1 : Hp} {o : HO} (a : ExB p H H1) : ExB p H (upd H1 p o) := fun c u h n => by
  rw [upd_ne n]
  exact a c u h n
theorem ror_exb {G H H' : Hp} {p a : Addr} {xs : List (List Nat)} (hG : ¬ G p = none) (hne : a ≠ p) (e : ExB p H H') (h : RepL (ROr G) H a xs) : RepL (ROr G) H' a xs := by
  obtain ⟨vs, h1, h2, h3⟩ := h
  exact ⟨vs, e _ _ h1 hne, h2, fun i x v hx hv => let ⟨q, a1, a2, a3⟩ := h3 i x v hx hv; ⟨q, a1, a2, e _ _ a3 fun z => hG (by rw [← z]; exact a2)⟩⟩
theorem ev_eqEP {K : PySem.W.Frag} {ta tb : TE} {σ : L2.St} {H : Hp} {xs : List V} (ha : EvP ta σ H (IsL xs)) (hb : ∀ H1, Ex H H1 → EvL tb σ H1 []) : Ev (tOp (rEqE K) ta tb) σ H (.bl xs.isEmpty) := fun H1 e Q q =>
  ha H1 e _ fun v H2 e2 ⟨p, ev, hp⟩ => hb H2 (e.trans e2) H2 (Ex.refl _) _ fun r H3 _ e3 h3 => ⟨p, r, xs, ev, rfl, sq_of (e3 _ _ hp), sq_of h3, q H3 (e2.trans e3)⟩
section
variable {P : Program} {w : World} {K : PySem.W.Frag} {mg : Str → Option Value} {base : Heap} {cP cC cS cD : Addr}
/-- the right ones of some, behind what they cost -/
def rightOf (d : Uw03.Day) (l : List (List Nat)) : List (Nat × List Nat) := (l.filter d.right).map fun o => (d.cost o, o)
theorem rightOf_snoc (d : Uw03.Day) (l : List (List Nat)) (o : List Nat) : rightOf d (l ++ [o]) = rightOf d l ++ (if d.right o = true then [(d.cost o, o)] else []) := by
  unfold rightOf
  rw [List.filter_append, List.map_append]
  congr 1
  rw [List.filter_cons, List.filter_nil]
  by_cases c : d.right o = true
  · rw [if_pos c, if_pos c]; rfl
  · rw [if_neg c, if_neg c]; rfl
theorem rightOf_len (d : Uw03.Day) (l : List (List Nat)) : (rightOf d l).length ≤ l.length := by
  unfold rightOf
  rw [List.length_map]
  exact List.length_filter_le _ _
theorem rightOf_all (d : Uw03.Day) : rightOf d (ordIt d.pieces.length d.pieces.length) = d.all.map fun o => (d.cost o, o) := by
  unfold rightOf
  rw [← all_eq]
def spRight (cP cC cD : Addr) : Sp := fun vs H Q _ => ∃ (a pl pc pr : Addr) (N : List Addr) (d : Uw03.Day) (m : Nat), vs = [.ref a] ∧ DayAt cP cC cD N H a pl pc pr d ∧ Good d m ∧ m ≤ 40000 ∧ ∀ p H', H p = none → Ex H H' → RepL (RCo H) H' p (d.all.map fun o => (d.cost o, o)) → Q (.ref p) H'
abbrev nRight : List Str := ["self", "found", "order", "stays"]
theorem sc_right : FnScope nRight ["self"] (defScope (xDay 7)) := ⟨rfl, rfl, rfl, by decide +kernel, rfl, by decide +kernel, by decide +kernel⟩
theorem sp_stays {H : Hp} {N : List Addr} {a pl pc pr po : Addr} {d : Uw03.Day} {o : List Nat} (hd : DayAt cP cC cD N H a pl pc pr d) (ho : H po = some (.lst (vi o))) (hlt : ∀ x ∈ o, x < d.pieces.length) (hn : d.players.length ≤ 6) :
    SpP (spStays cP cC cS cD) [.ref a, .ref po] H (fun v H' => ∃ p, v = .ref p ∧ RepL (RSy cS) H' p (staysOf d o)) :=
  fun H1 e Q q E => ⟨a, pl, pc, pr, N, po, d, o, rfl, hd.mono e, e _ _ ho, hlt, hn, fun p H2 _ e2 h2 => q _ H2 e2 ⟨p, rfl, h2⟩⟩
theorem look_of {H : Hp} {N : List Addr} {a pl pc pr po : Addr} {d : Uw03.Day} {m : Nat} {o : List Nat} (hd : DayAt cP cC cD N H a pl pc pr d) (hg : Good d m) (hm : m ≤ 40000) (ho : H po = some (.lst (vi o))) (is : IsOrd d.pieces.length o) : LookAt cP cC cS H pl pr po d o :=
  ⟨hd.pls, hd.prs, ho, is, hg.nc, hg.np, hg.ah, Nat.le_trans hg.am (by omega)⟩
theorem sp_wrong {H : Hp} {pp pr po ps : Addr} {d : Uw03.Day} {o : List Nat} (hL : LookAt cP cC cS H pp pr po d o) (hs : RepL (RSy cS) H ps (staysOf d o)) : SpP (spWrongWith cP cC cS) [.ref pp, .ref pr, .ref po, .ref ps] H (IsL (vi (wrongTold (d.wrong o)))) :=
  fun H1 e Q q E => ⟨pp, pr, po, ps, d, o, rfl, hL.mono e, hs.mono mono_sy e, fun p H2 _ e2 h2 => q _ H2 e2 ⟨p, rfl, h2⟩⟩
theorem sp_cost {H : Hp} {pp ps : Addr} {d : Uw03.Day} {m : Nat} {o : List Nat} (hg : Good d m) (hp : RepL (RPl cP) H pp d.players) (hs : RepL (RSy cS) H ps (staysOf d o)) : SpP (spCostOf cP cS) [.ref pp, .ref ps] H (fun v _ => v = .int (d.cost o : Nat)) :=
  fun H1 e Q q E => ⟨pp, ps, d, o, rfl, hp.mono mono_pl e, hs.mono mono_sy e, hg.np, fun p hp => (hg.pl p hp).1, fun H2 e2 => q _ H2 e2 rfl⟩
theorem wrong_empty (d : Uw03.Day) (o : List Nat) : (vi (wrongTold (d.wrong o))).isEmpty = d.right o := by
  unfold Uw03.Day.right
  cases d.wrong o <;> rfl
theorem ok_right {f : Addr} {fd : FuncData} (F : Fun K "right_orders" "Day.right_orders" (xDay 7) f fd) (T : Txt K mg cP cC cS cD) (c1 : Cal P w K mg base "all_orders" 1 ["many"] spAllOrders) (c2 : CalM P w K mg base cD "stays" 5 ["self", "order"] (spStays cP cC cS cD))
    (c3 : Cal P w K mg base "wrong_with" 2 ["players", "pairs", "order", "stays"] (spWrongWith cP cC cS)) (c4 : Cal P w K mg base "cost_of" 2 ["players", "stays"] (spCostOf cP cS)) : FnOk P w K mg base CX0 6 f fd ["self"] (spRight cP cC cD) := by
  refine F.ok sc_right (fun vs H Q E h => ?_) (fun cdv A outer s H vs Q E hr h => ?_)
  · obtain ⟨a, pl, pc, pr, N, d, m, rfl, _⟩ := h
    rfl
  · obtain ⟨a, pl, pc, pr, N, d, m, rfl, hd, hg, hm, q⟩ := h
    have nd := sc_right.nd
    obtain ⟨dx, ho⟩ := hd.obj
    obtain ⟨cv, hc1, hc2, hc3⟩ := id hd.pcs
    refine ⟨_, pss_cons (ps_set (i := 1) nd rfl (.inl rfl) (pe_lst pa_nil))
      (pss_cons (ps_for PassesOwn.never rfl (pi_list (pe_cal c1 (hr.mono (by decide)) (pa_cons (pe_callB call_len_seq (by rfl) T.zLen PySem.boot_len (pa_cons (pe_fld (pv 0) rfl) pa_nil)) pa_nil))) (pg_name (i := 2) nd rfl (.inl rfl))
        (pss_cons (ps_set (i := 3) nd rfl (.inl rfl) (pe_calm (pv 0) T.clD c2 hr (pa_cons (pv 2) pa_nil)))
        (pss_one (ps_if (pt_cmpR (op_eqE hr.units0) (pe_cal c3 (hr.mono (by decide)) (pa_cons (pe_fld (pv 0) rfl) (pa_cons (pe_fld (pv 0) rfl) (pa_cons (pv 2) (pa_cons (pv 3) pa_nil))))) (pe_lst pa_nil) (nomark _))
          (pss_one (ps_expr (pe_bm PySem.F.plainAttrs_list PySem.F.slot_list_append PySem.F.type_list_append mt_append (pv 1) (pa_cons (pe_tup (pa_cons (pe_cal c4 (hr.mono (by decide)) (pa_cons (pe_fld (pv 0) rfl) (pa_cons (pv 3) pa_nil))) (pa_cons (pv 2) pa_nil))) pa_nil)))) pss_nil))))
      (pss_one (ps_ret (pv 1)))), ?_⟩
    refine q_asgL (el_lst ea_nil (by decide)) fun pf G1 hpf e1 h1 => ?_
    have hG1 : ¬ G1 pf = none := by rw [h1]; exact fun z => nomatch z
    refine q_forLP (P := fun v H' => ∃ pa, v = .ref pa ∧ G1 pa = none ∧ RepL (ROr G1) H' pa (ordIt d.pieces.length d.pieces.length)) (ep_call (ea_cons (ev_is (ev_len (ev_fld (ev_var rfl) (e1 _ _ ho) T.clD T.dPc fD_pc) (sq_of (e1 _ _ hc1))) (by rw [hc2])) ea_nil) fun H1 e Q1 q1 E1 => ⟨d.pieces.length, rfl, hg.nc, fun p H2 hp e2 h2 => q1 _ H2 e2 ⟨p, rfl, fresh_back e hp, h2.imp fun x v ⟨r, a1, a2, a3⟩ => ⟨r, a1, fresh_back e a2, a3⟩⟩⟩)
      fun v Hc ec ⟨pa, ev, hpa, hrep⟩ => ?_
    subst ev
    obtain ⟨vs, hv1, hv2, hv3⟩ := id hrep
    have npa : pa ≠ pf := fun z => hG1 (by rw [← z]; exact hpa)
    refine ⟨pa, vs, rfl, sq_of hv1, fun i σ' H' => ∃ y2 y3 : Option V, σ' = [some (.ref a), some (.ref pf), y2, y3] ∧ Ex H H' ∧ ExB pf Hc H' ∧ RepL (RCo G1) H' pf (rightOf d ((ordIt d.pieces.length d.pieces.length).take i)), ⟨none, none, rfl, e1.trans ec, ExB.of (Ex.refl _), rep_nil (ec _ _ h1)⟩, fun i σ' H' _ ⟨_, _, _, _, e, _⟩ => sq_of (e _ _ hv1 npa), fun i x σ' H' hx p => ?_, fun σ' H' p => ?_⟩
    · obtain ⟨y2, y3, rfl, e, eb, hacc⟩ := p
      obtain ⟨o, hio, hor⟩ := (ror_exb hG1 npa eb hrep).get' (eb _ _ hv1 npa) hx
      obtain ⟨po, rfl, hpo0, hpo⟩ := hor
      have is := isOrd_of (List.mem_of_getElem? hio)
      have hd1 := hd.mono e
      have snoc : rightOf d ((ordIt d.pieces.length d.pieces.length).take (i + 1)) = rightOf d ((ordIt d.pieces.length d.pieces.length).take i) ++ (if d.right o = true then [(d.cost o, o)] else []) := by
        rw [List.take_add_one, hio]
        exact rightOf_snoc d _ o
      obtain ⟨dx1, ho1⟩ := id hd1.obj
      refine q_asgP (ep_meth (ev_var rfl) ho1 (f3_none (by decide +kernel) (by decide +kernel) (by decide +kernel)) (ea_cons (ev_var rfl) ea_nil) (sp_stays hd1 hpo is.lt hg.np)) fun v H2 e2 ⟨ps, ev, hst⟩ => ?_
      subst ev
      have hd2 := hd1.mono e2
      obtain ⟨dx2, ho2⟩ := id hd2.obj
      refine s_when (b := d.right o) (et_is (et_test (ev_eqEP (ep_call (ea_cons (ev_fld (ev_var rfl) ho2 T.clD T.dPl fD_pl) (ea_cons (ev_fld (ev_var rfl) ho2 T.clD T.dPr fD_pr) (ea_cons (ev_var rfl) (ea_cons (ev_var rfl) ea_nil)))) (sp_wrong (look_of hd2 hg hm (e2 _ _ hpo) is) hst)) fun G eg => el_lst ea_nil (by decide))) (wrong_empty d o)) (fun hb H3 e3 => ?_) (fun hb H3 e3 => ?_)
      · have e23 := e2.trans e3
        have hd3 := hd2.mono e3
        obtain ⟨dx3, ho3⟩ := id hd3.obj
        obtain ⟨acc, ha1, ha2, _⟩ := id (hacc.mono mono_co e23)
        have hsz : acc.length < 100000 := by
          rw [ha2]
          have a1 := rightOf_len d ((ordIt d.pieces.length d.pieces.length).take i)
          have a2 := ordIt_small hg.nc hg.nc
          rw [List.length_take] at a1
          omega
        refine s_appP ha1 (ev_var rfl) (P := RCo G1 (d.cost o, o)) ((el_tup (ea_cons (ev_of (ep_call (ea_cons (ev_fld (ev_var rfl) ho3 T.clD T.dPl fD_pl) (ea_cons (ev_var rfl) ea_nil)) (sp_cost hg hd3.pls (hst.mono mono_sy e3))) fun v _ _ e => e) (ea_cons (ev_var rfl) ea_nil)) (by show 2 ≤ 100000; decide)).imp fun v G eg ⟨t, a1, a2⟩ => ⟨t, po, a1, a2, hpo0, eg _ _ (e23 _ _ hpo)⟩) hsz fun v H4 e4 hv => ?_
        have e24 := e23.trans e4
        refine ⟨_, _, rfl, Ex.mut (e.trans e24) hpf, (eb.trans (ExB.of e24)).upd, ?_⟩
        rw [snoc, if_pos hb]
        exact (hacc.mono mono_co e24).snoc (off_co hG1) (e4 _ _ ha1) hv
      · have e23 := e2.trans e3
        refine ⟨_, _, rfl, e.trans e23, eb.trans (ExB.of e23), ?_⟩
        rw [snoc, if_neg (by rw [hb]; exact Bool.false_ne_true), List.append_nil]
        exact hacc.mono mono_co e23
    · obtain ⟨y2, y3, rfl, e, eb, hacc⟩ := p
      rw [hv2, List.take_length, rightOf_all] at hacc
      exact s_ret (ev_var rfl) fun H1 e2 => q pf H1 hpf (e.trans e2) ((hacc.mono mono_co e2).imp fun x v ⟨t, r, a1, a2, a3, a4⟩ => ⟨t, r, a1, a2, fresh_back e1 a3, a4⟩)
end
end Reh
end RdRight
section RdBest
/-! best. -/
namespace Reh
open PySem PySem.Spec PyProof.Rows L2 Evl
/-! ### lists by their places -/
theorem range_at {α β : Type} (z : α) (f : α → β) (l : List α) : ((List.range l.length).map fun i => f (l.getD i z)) = l.map f := by
  refine List.ext_getElem? fun i => ?_
  by_cases c : i < l.length
  · rw [List.getElem?_map, List.getElem?_map, List.getElem?_range c, List.getElem?_eq_getElem c]
    show some (f (l.getD i z)) = some (f l[i])
    rw [List.getD_eq_getElem?_getD, List.getElem?_eq_getElem c]
    rfl
  · rw [List.getElem?_eq_none (by rw [List.length_map, List.length_range]; omega), List.getElem?_eq_none (by rw [List.length_map]; omega)]
theorem range_filter {α β : Type} (z : α) (p : α → Bool) (f : α → β) (l : List α) : (((List.range l.length).filter fun i => p (l.getD i z)).map fun i => f (l.getD i z)) = (l.filter p).map f := by
  have e : l = (List.range l.length).map fun i => l.getD i z := ((range_at z id l).trans (List.map_id l)).symm
  have e2 : (l.filter p).map f = (((List.range l.length).map fun i => l.getD i z).filter p).map f := by rw [← e]
  rw [e2, List.filter_map, List.map_map]
  rfl
def RVal (x : V) (v : V) (_ : Hp) : Prop := v = x
theorem mono_val : Mono RVal := fun _ _ _ _ _ h => h
theorem off_val {p : Addr} : Off RVal p := fun _ _ _ _ _ _ h => h
theorem rep_val {H : Hp} {p : Addr} {l : List V} (h : RepL RVal H p l) : H p = some (.lst l) := by
  obtain ⟨vs, h1, h2, h3⟩ := h
  have e : vs = l := by
    refine List.ext_getElem? fun i => ?_
    by_cases c : i < l.length
    · have hx : l[i]? = some l[i] := List.getElem?_eq_getElem c
      have hv : vs[i]? = some vs[i] := List.getElem?_eq_getElem (by omega)
      rw [hx, hv, h3 i _ _ hx hv]
    · rw [List.getElem?_eq_none (by omega), List.getElem?_eq_none (by omega)]
  rw [h1, e]
/-- the orders' own addresses -/
theorem co_split {G H : Hp} : ∀ {L : List (Nat × List Nat)} {vs : List V}, vs.length = L.length → (∀ (i : Nat) x v, L[i]? = some x → vs[i]? = some v → RCo G x v H) →
    ∃ ps : List Addr, ps.length = L.length ∧ ∀ (i : Nat) x, L[i]? = some x → ∃ t q, vs[i]? = some (.ref t) ∧ ps[i]? = some q ∧ H t = some (.tup [.int (x.1 : Nat), .ref q]) ∧ H q = some (.lst (vi x.2))
  | [], [], _, _ => ⟨[], rfl, fun i x h => by simp at h⟩
  | x :: L, v :: vs, hl, h => by
    obtain ⟨ps, h1, h2⟩ := co_split (L := L) (vs := vs) (by simpa using hl) fun i y u a b => h (i + 1) y u a b
    obtain ⟨t, q, rfl, ht, _, hq⟩ := h 0 x v rfl rfl
    refine ⟨q :: ps, by rw [List.length_cons, List.length_cons, h1], fun i y hy => ?_⟩
    cases i with
    | zero => cases hy; exact ⟨t, q, rfl, rfl, ht, hq⟩
    | succ j => exact h2 j y hy
theorem ev_min {K : PySem.W.Frag} {te : TE} {σ : L2.St} {H : Hp} {l : List Nat} (h : EvP te σ H (IsL (vi l))) (hne : 0 < l.length) : EvP (tCB (rMin K) (tCons te tNil)) σ H (fun v _ => ∃ m : Nat, v = .int (m : Int) ∧ m ∈ l ∧ ∀ y ∈ l, m ≤ y) := fun H1 e Q q =>
  h H1 e _ fun v H2 e2 ⟨a, ev, ha⟩ => ⟨a, zi l, by rw [ev], sq_of (by rw [← vi_zi]; exact ha), by rw [zi_len]; exact hne, fun m hm hle => by
    obtain ⟨n, hn, rfl⟩ := List.mem_map.mp hm
    refine q _ H2 e2 ⟨n, rfl, hn, fun y hy => ?_⟩
    have := hle (y : Int) (List.mem_map.mpr ⟨y, hy, rfl⟩)
    omega⟩
theorem vz_zi (l : List Nat) : vz (zi l) = vi l := (vi_zi l).symm
theorem vz_app (l r : List Int) : vz (l ++ r) = vz l ++ vz r := List.map_append ..
theorem tell_vz (d : Uw03.Day) (o : List Nat) : vz ((d.tell o).flatMap fun w => (w.length : Int) :: w.map fun (x : Nat) => (x : Int)) = vi (toldAll (staysOf d o)) := by
  rw [tell_eq]
  unfold staysOf toldAll
  generalize List.range d.players.length = l
  induction l with
  | nil => rfl
  | cons x l ih =>
    rw [List.map_cons, List.flatMap_cons, vz_app, ih, List.map_cons, List.flatMap_cons, vi_app]
    congr 1
    rw [show ((syTold (syIn d o x)).length : Int) :: (syTold (syIn d o x)).map (fun (x : Nat) => (x : Int)) = zi (told1 (syIn d o x)) from rfl, vz_zi]
section
variable {P : Program} {w : World} {K : PySem.W.Frag} {mg : Str → Option Value} {base : Heap} {cP cC cS cD : Addr}
def ArgsBest : List V → Hp → Uw03.Call → Prop := fun ws _ c => ws = [] ∧ c = .best
abbrev nBest : List Str := ["self", "some", "least", "orders", "cost", "order"]
theorem sc_best : FnScope nBest ["self"] (defScope (xDay 8)) := ⟨rfl, rfl, rfl, by decide +kernel, rfl, by decide +kernel, by decide +kernel⟩
theorem sp_told {H : Hp} {p : Addr} {d : Uw03.Day} {o : List Nat} (hn : d.players.length ≤ 6) (h : RepL (RSy cS) H p (staysOf d o)) : SpP (spStaysTold cS) [.ref p] H (IsL (vi (toldAll (staysOf d o)))) :=
  fun H1 e Q q E => ⟨p, staysOf d o, rfl, h.mono mono_sy e, fun s hs => staysOf_ok hs, by rw [staysOf_len]; exact hn, fun r H2 _ e2 h2 => q _ H2 e2 ⟨r, rfl, h2⟩⟩
theorem toldAll_small {d : Uw03.Day} {o : List Nat} (hn : d.players.length ≤ 6) : (toldAll (staysOf d o)).length ≤ 24 := by
  have := toldAll_len (staysOf d o)
  rw [staysOf_len] at this
  omega
/-- an answer that changes nothing -/
theorem s_same {σ : L2.St} {H H0 : Hp} {D : Ends} {te : TE} {N : List Addr} {a pl pc pr : Addr} {d : Uw03.Day} {c : Uw03.Call} {Q : VK} {xs : List V} (hD : D.rt = Q) (e0 : Ex H0 H) (hd : DayAt cP cC cD N H0 a pl pc pr d) (hs : (Uw03.step d c).1 = d) (hx : xs = vz (outOf d c)) (h : EvL te σ H xs)
    (q : ∀ p H' pl' pc' pr', H0 p = none → H' p = some (.lst (vz (outOf d c))) → DayAt cP cC cD N H' a pl' pc' pr' (Uw03.step d c).1 → Frame H0 H' a pl pc pr pl' pc' pr' → Q (.ref p) H') : tRet te D σ H := by
  refine s_retL h fun p H' hp e h' => ?_
  rw [hD]
  exact q p H' pl pc pr (fresh_back e0 hp) (by rw [← hx]; exact h') (by rw [hs]; exact hd.mono (e0.trans e)) (Frame.ex (e0.trans e))
theorem ok_best {f : Addr} {fd : FuncData} (F : Fun K "best" "Day.best" (xDay 8) f fd) (T : Txt K mg cP cC cS cD) (c1 : CalM P w K mg base cD "right_orders" 6 ["self"] (spRight cP cC cD)) (c2 : CalM P w K mg base cD "stays" 5 ["self", "order"] (spStays cP cC cS cD))
    (c3 : Cal P w K mg base "as_list" 1 ["some"] spAsList) (c4 : Cal P w K mg base "stays_told" 3 ["stays"] (spStaysTold cS)) : FnOk P w K mg base CX0 7 f fd ["self"] (spCall cP cC cD ArgsBest) := by
  refine F.ok sc_best (fun vs H Q E h => ?_) (fun cdv A outer s H vs Q E hr h => ?_)
  · obtain ⟨a, pl, pc, pr, N, ws, d, m, c, rfl, _, _, _, ⟨rfl, _⟩, _⟩ := h
    rfl
  · obtain ⟨a, pl, pc, pr, N, ws, d, m, c, rfl, hd, hg, hm, ⟨rfl, rfl⟩, q⟩ := h
    have nd := sc_best.nd
    obtain ⟨dx, ho⟩ := hd.obj
    refine ⟨_, pss_cons (ps_set (i := 1) nd rfl (.inl rfl) (pe_calm0 (pv 0) T.clD c1 hr))
      (pss_cons (ps_if (pt_cmpR (op_eqE hr.units0) (pv 1) (pe_lst pa_nil) (nomark _)) (pss_one (ps_ret (pe_lst (pa_cons (pe_gv T.vNone) pa_nil)))) pss_nil)
      (pss_cons (ps_set (i := 2) nd rfl (.inr rfl) (pe_callB (cr_min rfl) (by rfl) T.zMin (by decide +kernel) (pa_cons (by exact pe_lc (own := [("cost", 4), ("order", 5)]) (g := gTup K 2 (gCons (gName 4) (gCons (gName 5) gNil))) (tt := tYes) (te := tVar 4) rfl nd (pi_list (pv 1)) (blkOk_by (N := nBest) (sc := defScope (xDay 8)) (by decide +kernel)) (fun _ _ _ _ _ => pg_tup rfl (pgs_cons (pg_name (i := 4) nd rfl (Or.inl rfl)) (pgs_cons (pg_name (i := 5) nd rfl (Or.inl rfl)) pgs_nil))) (fun _ _ _ _ _ => pts_nil) (fun _ _ _ _ _ => pv 4)) pa_nil)))
      (pss_cons (ps_setLc (i := 3) (own := [("cost", 4), ("order", 5)]) (g := gTup K 2 (gCons (gName 4) (gCons (gName 5) gNil))) (tt := tTest (tOp rEq (tVar 4) (tVar 2))) (te := tVar 5) rfl nd rfl rfl (sw_true rfl rfl rfl (by decide +kernel)) (pi_list (pv 1)) (blkOk_by (N := nBest) (sc := defScope (xDay 8)) (by decide +kernel)) (fun _ _ _ _ _ => pg_tup rfl (pgs_cons (pg_name (i := 4) nd rfl (Or.inl rfl)) (pgs_cons (pg_name (i := 5) nd rfl (Or.inl rfl)) pgs_nil))) (fun _ _ _ _ _ => pts_one (pt_cmpR op_eq (pv 4) (pv 2) (nomark _))) (fun _ _ _ _ _ => pv 5))
      (pss_one (ps_ret (pe_op op_cat (pe_op op_cat (pe_op op_cat (pe_lst (pa_cons (pv 2) pa_nil)) (pe_cal c3 (hr.mono (by decide)) (pa_cons (pe_lst (pa_cons (pe_callB call_len_seq (by rfl) T.zLen PySem.boot_len (pa_cons (pv 3) pa_nil)) pa_nil)) pa_nil))) (pe_cal c3 (hr.mono (by decide)) (pa_cons (pe_ix ix_list (pv 3) pe_int (fun _ _ => rfl)) pa_nil))) (pe_cal c4 (hr.mono (by decide)) (pa_cons (pe_calm (pv 0) T.clD c2 (hr.mono (by decide)) (pa_cons (pe_ix ix_list (pv 3) pe_int (fun _ _ => rfl)) pa_nil)) pa_nil)))))))), ?_⟩
    -- some = self.right_orders()
    refine q_asgP (P := fun v H' => ∃ p, v = .ref p ∧ RepL (RCo H) H' p (d.all.map fun o => (d.cost o, o))) (ep_meth (ev_var rfl) ho (f3_none (by decide +kernel) (by decide +kernel) (by decide +kernel)) ea_nil fun H1 e Q1 q1 E1 => ⟨a, pl, pc, pr, N, d, m, rfl, hd.mono e, hg, hm, fun p H2 hp e2 h2 => q1 _ H2 e2 ⟨p, rfl, h2.imp fun x v ⟨t, r, a1, a2, a3, a4⟩ => ⟨t, r, a1, a2, fresh_back e a3, a4⟩⟩⟩) fun v H1 e1 ⟨ps, ev, hrep⟩ => ?_
    subst ev
    obtain ⟨vs, hv1, hv2, hv3⟩ := id hrep
    have allLen : d.all.length ≤ 46656 := by
      rw [all_eq]
      exact Nat.le_trans (List.length_filter_le _ _) (ordIt_small hg.nc hg.nc)
    rw [List.length_map] at hv2
    have st1 : (Uw03.step d .best).1 = d := rfl
    -- if some == []
    refine q_when (b := d.all.isEmpty) (et_is (et_test (ev_eqE (ev_var rfl) hv1 (el_lst ea_nil (by decide)))) (by rw [empty_iff hv2])) (fun hb H2 e2 => ?_) (fun hb H2 e2 => ?_)
    · have hnil : d.all = [] := List.isEmpty_iff.mp hb
      have hs : Uw03.step d .best = (d, Uw03.ok (-6)) := by
        show (d, match d.best with | some b => _ | none => Uw03.ok (-6)) = _
        rw [best_none hnil]
      exact s_one rfl (e1.trans e2) hd hs ev_c q
    have hne : d.all ≠ [] := fun z => by rw [z] at hb; cases hb
    have hpos : 0 < d.all.length := List.length_pos_iff.mpr hne
    obtain ⟨ads, hp1, hp2⟩ := co_split (hv2.trans (List.length_map ..).symm) hv3
    rw [List.length_map] at hp1
    have item : ∀ i, i < d.all.length → ∃ t q, vs[i]? = some (.ref t) ∧ ads[i]? = some q ∧ H1 t = some (.tup [.int (d.cost (d.all.getD i []) : Nat), .ref q]) ∧ H1 q = some (.lst (vi (d.all.getD i []))) := fun i hi => by
      have e : (d.all.map fun o => (d.cost o, o))[i]? = some (d.cost (d.all.getD i []), d.all.getD i []) := by
        rw [List.getElem?_map, List.getElem?_eq_getElem hi, List.getD_eq_getElem?_getD, List.getElem?_eq_getElem hi]
        rfl
      exact hp2 i _ e
    have e12 := e1.trans e2
    -- least = min([cost for cost, order in some])
    refine q_asgP (ev_min (l := d.all.map d.cost) ((ep_lcC (R := RInt) (n := d.all.length) (f := fun _ => true) (d := fun i => d.cost (d.all.getD i [])) (by have z := iw_list (K := K) (σ := [some (.ref a), some (.ref ps), none, none, none, none]) (tl := tVar 1) (ev_var rfl) (sq_of (e2 _ _ hv1)); rw [hv2] at z; exact z) (by omega) (tgm_tup (tgsm_cons (tgm_name 4) (tgsm_cons (tgm_name 5) tgsm_nil))) mono_int (fun _ => off_int) (fun i x G1 G2 hi eg y => ?_)).imp fun v G _ ⟨p, b1, _, b3⟩ => ⟨p, b1, ?_⟩) (by rw [List.length_map]; exact hpos)) fun v H3 e3 ⟨mn, ev, hmem, hleast⟩ => ?_
    · obtain ⟨rfl, hx⟩ := y
      obtain ⟨t, q0, t1, t2, t3, t4⟩ := item i hi
      rw [t1] at hx
      cases hx
      exact g_pair ((e2.trans eg) _ _ t3) ⟨rfl, Ex.refl _, et_yes, fun _ => ep_of (ev_var rfl) fun _ _ => rfl⟩
    · rw [givenD_all, range_at [] d.cost] at b3
      exact rep_int.mp b3
    subst ev
    have e13 := e12.trans e3
    have e23 := e2.trans e3
    -- orders = [order for cost, order in some if cost == least]
    have hf : ∀ i, decide (d.cost (d.all.getD i []) = mn) = (fun o => decide (d.cost o = mn)) (d.all.getD i []) := fun i => rfl
    refine q_asgP (P := fun v H' => ∃ p, v = .ref p ∧ H' p = some (.lst (givenD d.all.length (fun i => decide (d.cost (d.all.getD i []) = mn)) fun i => V.ref (ads.getD i 0)))) ((ep_lcC (R := RVal) (n := d.all.length) (by have z := iw_list (K := K) (σ := [some (.ref a), some (.ref ps), some (.int (mn : Int)), none, none, none]) (tl := tVar 1) (ev_var rfl) (sq_of (e23 _ _ hv1)); rw [hv2] at z; exact z) (by omega) (tgm_tup (tgsm_cons (tgm_name 4) (tgsm_cons (tgm_name 5) tgsm_nil))) mono_val (fun _ => off_val) (fun i x G1 G2 hi eg y => ?_)).imp fun v G _ ⟨p, b1, _, b3⟩ => ⟨p, b1, rep_val b3⟩) fun v H4 e4 ⟨po2, ev, hol⟩ => ?_
    · obtain ⟨rfl, hx⟩ := y
      obtain ⟨t, q0, t1, t2, t3, t4⟩ := item i hi
      rw [t1] at hx
      cases hx
      refine g_pair ((e23.trans eg) _ _ t3) ⟨rfl, Ex.refl _, et_is (et_test (ev_op (ev_var rfl) (ev_var rfl) rv_eqI)) (by rw [Bool.eq_iff_iff]; simp; omega), fun _ => ep_of (ev_var rfl) fun _ _ => ?_⟩
      show V.ref q0 = V.ref (ads.getD i 0)
      rw [List.getD_eq_getElem?_getD, t2]
      rfl
    subst ev
    have e14 := e13.trans e4
    have e24 := e23.trans e4
    -- the first of them
    obtain ⟨bo, hbo, hbc⟩ : ∃ x ∈ d.all, d.cost x = mn := by
      obtain ⟨x, hx, hc⟩ := List.mem_map.mp hmem
      exact ⟨x, hx, hc⟩
    obtain ⟨o1, r1, hfil⟩ : ∃ o r, (d.all.filter fun x => decide (d.cost x = mn)) = o :: r := by
      cases z : d.all.filter fun x => decide (d.cost x = mn) with
      | nil => exact absurd (List.mem_filter.mpr ⟨hbo, decide_eq_true hbc⟩) (by rw [z]; exact List.not_mem_nil)
      | cons o r => exact ⟨o, r, rfl⟩
    have hbest := best_some (d := d) ⟨bo, hbo, hbc⟩ (fun x hx => hleast _ (List.mem_map.mpr ⟨x, hx, rfl⟩)) hfil
    have idx : (((List.range d.all.length).filter fun i => decide (d.cost (d.all.getD i []) = mn)).map fun i => d.all.getD i []) = o1 :: r1 := by
      have z := range_filter [] (fun x => decide (d.cost x = mn)) id d.all
      rw [List.map_id, hfil] at z
      exact z
    obtain ⟨i1, is1, hidx⟩ : ∃ i is, ((List.range d.all.length).filter fun i => decide (d.cost (d.all.getD i []) = mn)) = i :: is := by
      cases z : (List.range d.all.length).filter fun i => decide (d.cost (d.all.getD i []) = mn) with
      | nil => rw [z] at idx; cases idx
      | cons i is => exact ⟨i, is, rfl⟩
    rw [hidx] at idx
    have eo1 : d.all.getD i1 [] = o1 := (List.cons.inj idx).1
    have len1 : is1.length = r1.length := by
      have := congrArg List.length (List.cons.inj idx).2
      rw [List.length_map] at this
      exact this
    have hi1 : i1 < d.all.length := List.mem_range.mp (List.mem_filter.mp (by rw [hidx]; exact List.mem_cons_self ..)).1
    obtain ⟨t1, q1, b1, b2, b3, b4⟩ := item i1 hi1
    rw [eo1] at b4
    have hgl : givenD d.all.length (fun i => decide (d.cost (d.all.getD i []) = mn)) (fun i => V.ref (ads.getD i 0)) = V.ref q1 :: is1.map fun i => V.ref (ads.getD i 0) := by
      unfold givenD
      rw [hidx, List.map_cons]
      congr 1
      rw [List.getD_eq_getElem?_getD, b2]
      rfl
    rw [hgl] at hol
    have hdx := hd.mono e14
    obtain ⟨dx4, ho4⟩ := id hdx.obj
    have hq4 := e24 _ _ b4
    have is : IsOrd d.pieces.length o1 := by
      have z : o1 ∈ d.all := (List.mem_filter.mp (by rw [hfil]; exact List.mem_cons_self ..)).1
      rw [all_eq] at z
      exact isOrd_of (List.mem_filter.mp z).1
    have ol : o1.length ≤ 6 := by rw [is.len]; exact hg.nc
    have tl := toldAll_small (o := o1) hg.np
    have first : ∀ G, Ex H4 G → Ev (tOp (rIxL K) (tVar 3) (tC (.int 0))) [some (.ref a), some (.ref ps), some (.int (mn : Int)), some (.ref po2), none, none] G (.ref q1) := fun G eg => ev_op (ev_var rfl) ev_c (rv_ixL (sq_of (eg _ _ hol)) (atI_nat (j := 0) rfl))
    refine s_same rfl e14 hd st1 (xs := ((.int (mn : Int) :: [] ++ (.int ((1 : Nat) : Int) :: [.int ((is1.length + 1 : Nat) : Int)])) ++ (.int ((vi o1).length : Int) :: vi o1)) ++ vi (toldAll (staysOf d o1))) ?_ (el_cat (ep_ofL (el_cat (ep_ofL (el_cat (ep_ofL (el_lst (ea_cons (ev_var rfl) ea_nil) (by show 1 ≤ 100000; decide))) (fun G eg => ?_) (by show 1 + 2 ≤ 100000; decide))) (fun G eg => ?_) (by simp only [List.length_append, List.length_cons, List.length_nil, vi_len]; omega))) (fun G eg => ?_) (by simp only [List.length_append, List.length_cons, List.length_nil, vi_len]; omega)) q
    · unfold outOf
      have hs : (Uw03.step d .best).2 = ⟨(mn : Nat), [[r1.length + 1], o1] ++ d.tell o1⟩ := by
        show (match d.best with | some b => _ | none => Uw03.ok (-6)) = _
        rw [hbest]
      rw [hs]
      show _ = vz ((mn : Int) :: ([[r1.length + 1], o1] ++ d.tell o1).flatMap fun w => (w.length : Int) :: w.map fun (x : Nat) => (x : Int))
      rw [List.flatMap_append]
      show _ = V.int (mn : Int) :: vz (_ ++ _)
      rw [vz_app, tell_vz, len1, vi_len]
      show _ = V.int (mn : Int) :: ((V.int 1 :: V.int ((r1.length + 1 : Nat) : Int) :: V.int (o1.length : Int) :: vz (o1.map (fun (x : Nat) => (x : Int)) ++ [])) ++ vi (toldAll (staysOf d o1)))
      rw [List.append_nil, show vz (o1.map fun (x : Nat) => (x : Int)) = vi o1 from vz_zi o1]
      rfl
    · refine ep_as_list (xs := [.int ((is1.length + 1 : Nat) : Int)]) (ep_ofL (el_lst (ea_cons (ev_is (ev_len (ev_var rfl) (sq_of (eg _ _ hol))) ?_) ea_nil) (by show 1 ≤ 100000; decide))) (by show 1 ≤ 2000000; decide)
      rw [List.length_cons, List.length_map]
    · exact ep_as_list (ep_ref (first G eg) (eg _ _ hq4)) (by rw [vi_len]; omega)
    · refine ep_callP (eap_one (ep_meth (ev_var rfl) (eg _ _ ho4) (f3_none (by decide +kernel) (by decide +kernel) (by decide +kernel)) (ea_cons (first G eg) ea_nil) (sp_stays (hdx.mono eg) (eg _ _ hq4) is.lt hg.np))) fun ws G1 e5 ⟨v, ew, p, ev, hst⟩ => ?_
      subst ew ev
      exact sp_told hg.np hst
end
end Reh
end RdBest
section RdCheck
/-! check, work. -/
namespace Reh
open PySem PySem.Spec PyProof.Rows L2 Evl
/-! ### two lists of ints compared -/
def iD (l : List Int) : PyData := .list (l.map PyData.int)
theorem is_lay : ∀ l : List Int, PyData.canLayAll0 (l.map PyData.int) = true
  | [] => by simp [PyData.canLayAll0]
  | z :: l => by simp [PyData.canLayAll0, PyData.canLay0, is_lay l]
theorem is_depth : ∀ l : List Int, PyData.depthAll (l.map PyData.int) ≤ 1
  | [] => by simp [PyData.depthAll]
  | z :: l => by
    have h := is_depth l
    simp only [List.map_cons, PyData.depthAll, PyData.depth]
    omega
theorem iD_shaped (l : List Int) : SeqAt.shaped (iD l) = true := by
  have h1 := is_depth l
  have h2 : PyData.depth (iD l) ≤ 64 := by
    simp only [iD, PyData.depth]
    omega
  exact Bool.and_eq_true_iff.mpr ⟨by simp only [iD, PyData.canLay0]; exact is_lay l, decide_eq_true h2⟩
theorem is_eqv : ∀ l r : List Int, PyData.eqvAll (l.map PyData.int) (r.map PyData.int) = decide (l = r)
  | [], [] => by simp [PyData.eqvAll]
  | [], y :: r => by simp [PyData.eqvAll]
  | x :: l, [] => by simp [PyData.eqvAll]
  | x :: l, y :: r => by
    rw [List.map_cons, List.map_cons]
    simp only [PyData.eqvAll, PyData.eqv, is_eqv l r]
    rw [Bool.eq_iff_iff]
    simp
theorem iD_eqv (l r : List Int) : PyData.eqv (iD l) (iD r) = decide (l = r) := by
  simp only [iD, PyData.eqv]
  exact is_eqv l r
theorem dp_is {K : PySem.W.Frag} {H : Hp} : ∀ l : List Int, DpAll K H (l.map V.int) (l.map PyData.int)
  | [] => .nil
  | z :: l => .cons (.int z) (dp_is l)
theorem ev_neD {K : PySem.W.Frag} {ta tb : TE} {σ : L2.St} {H : Hp} {b : Bool} {R : List Int → Prop} (ha : EvP ta σ H fun v H1 => ∃ p zs, v = .ref p ∧ H1 p = some (.lst (vz zs)) ∧ R zs) {r : List Int} (hb : ∀ H1, Ex H H1 → EvL tb σ H1 (vz r)) (hR : ∀ zs, R zs → (!decide (zs = r)) = b) : Ev (tOp (rNeD K) ta tb) σ H (.bl b) := fun H1 e Q q =>
  ha H1 e _ fun v H2 e2 ⟨p, zs, ev, hp, hz⟩ => hb H2 (e.trans e2) H2 (Ex.refl _) _ fun p2 H3 _ e3 h3 => by
    subst ev
    refine ⟨iD zs, iD r, .lst (sq_of (e3 _ _ hp)) (dp_is zs), .lst (sq_of h3) (dp_is r), iD_shaped zs, iD_shaped r, ?_⟩
    rw [iD_eqv, hR zs hz]
    exact q H3 (e2.trans e3)
theorem el_range {te : TE} {σ : L2.St} {H : Hp} {n : Nat} (h : Ev te σ H (.int (n : Int))) (hn : n ≤ 100000) : EvL (tLstRg (tRg1 te)) σ H (vz (zi (List.range n))) := fun H1 e Q q =>
  h H1 e _ fun H2 e2 => ⟨(n : Int), rfl, RgOk.of_le (by omega) (by omega) (by omega) (by omega), fun p hp => by
    have z : rgV 0 (n : Int) = vz (zi (List.range n)) := by
      unfold rgV vz zi
      rw [Int.sub_zero, Int.toNat_natCast, List.map_map]
      refine List.map_congr_left fun i _ => ?_
      show V.int (0 + (i : Int)) = V.int (i : Int)
      rw [Int.zero_add]
    rw [z]
    exact q p _ (fresh_back e2 hp) (e2.trans (Ex.new hp)) upd_same⟩
theorem ep_sorted {K : PySem.W.Frag} {te : TE} {σ : L2.St} {H : Hp} {l : List Nat} (h : EvP te σ H (IsL (vi l))) (hl : l.length < 64) : EvP (tCB (rSorted K) (tCons te tNil)) σ H fun v H1 => ∃ p zs, v = .ref p ∧ H1 p = some (.lst (vz zs)) ∧ (zs.Perm (zi l) ∧ zs.Pairwise (· ≤ ·)) := fun H1 e Q q =>
  h H1 e _ fun v H2 e2 ⟨a, ev, ha⟩ => ⟨a, zi l, by rw [ev], sq_of (by rw [← vi_zi]; exact ha), by rw [zi_len]; exact hl, fun zs p hz hs hp => q _ _ (e2.trans (Ex.new hp)) ⟨p, zs, rfl, upd_same, hz, hs⟩⟩
section
variable {P : Program} {w : World} {K : PySem.W.Frag} {mg : Str → Option Value} {base : Heap} {cP cC cS cD : Addr}
/-! ### check -/
def ArgsCheck : List V → Hp → Uw03.Call → Prop := fun ws H c => ∃ (o : List Nat) (po : Addr), ws = [.ref po] ∧ H po = some (.lst (vi o)) ∧ o.length ≤ 20 ∧ c = .check o
abbrev nCheck : List Str := ["self", "order", "stays", "wrong"]
theorem sc_check : FnScope nCheck ["self", "order"] (defScope (xDay 9)) := ⟨rfl, rfl, rfl, by decide +kernel, rfl, by decide +kernel, by decide +kernel⟩
theorem ok_check {f : Addr} {fd : FuncData} (F : Fun K "check" "Day.check" (xDay 9) f fd) (T : Txt K mg cP cC cS cD) (c2 : CalM P w K mg base cD "stays" 5 ["self", "order"] (spStays cP cC cS cD)) (c3 : Cal P w K mg base "as_list" 1 ["some"] spAsList) (c4 : Cal P w K mg base "stays_told" 3 ["stays"] (spStaysTold cS))
    (c5 : Cal P w K mg base "wrong_with" 2 ["players", "pairs", "order", "stays"] (spWrongWith cP cC cS)) (c6 : Cal P w K mg base "cost_of" 2 ["players", "stays"] (spCostOf cP cS)) : FnOk P w K mg base CX0 6 f fd ["self", "order"] (spCall cP cC cD ArgsCheck) := by
  refine F.ok sc_check (fun vs H Q E h => ?_) (fun cdv A outer s H vs Q E hr h => ?_)
  · obtain ⟨a, pl, pc, pr, N, ws, d, m, c, rfl, _, _, _, ⟨o, po, rfl, _⟩, _⟩ := h
    rfl
  · obtain ⟨a, pl, pc, pr, N, ws, d, m, c, rfl, hd, hg, hm, ⟨o, po, rfl, hpo, ho20, rfl⟩, q⟩ := h
    have nd := sc_check.nd
    obtain ⟨dx, ho⟩ := hd.obj
    obtain ⟨cv, hc1, hc2, hc3⟩ := id hd.pcs
    refine ⟨_, pss_cons (ps_if (pt_cmpR (op_neD hr.units) (pe_callB cr_sorted (by rfl) T.zSorted (by decide +kernel) (pa_cons (pv 1) pa_nil)) (pe_listRg rfl (by rfl) T.zList (prg_1 (by rfl) T.zRange (pe_callB call_len_seq (by rfl) T.zLen PySem.boot_len (pa_cons (pe_fld (pv 0) rfl) pa_nil)))) (nomark _)) (pss_one (ps_ret (pe_lst (pa_cons (pe_gv T.vBad) pa_nil)))) pss_nil)
      (pss_cons (ps_set (i := 2) nd rfl (.inl rfl) (pe_calm (pv 0) T.clD c2 hr (pa_cons (pv 1) pa_nil)))
      (pss_cons (ps_set (i := 3) nd rfl (.inl rfl) (pe_cal c5 (hr.mono (by decide)) (pa_cons (pe_fld (pv 0) rfl) (pa_cons (pe_fld (pv 0) rfl) (pa_cons (pv 1) (pa_cons (pv 2) pa_nil))))))
      (pss_cons (ps_if (pt_cmpR (op_neE hr.units0) (pv 3) (pe_lst pa_nil) (nomark _)) (pss_one (ps_ret (pe_op op_cat (pe_lst (pa_cons pe_int pa_nil)) (pe_cal c3 (hr.mono (by decide)) (pa_cons (pv 3) pa_nil))))) pss_nil)
      (pss_one (ps_ret (pe_op op_cat (pe_op op_cat (pe_lst (pa_cons pe_int pa_nil)) (pe_cal c3 (hr.mono (by decide)) (pa_cons (pe_lst (pa_cons (pe_cal c6 (hr.mono (by decide)) (pa_cons (pe_fld (pv 0) rfl) (pa_cons (pv 2) pa_nil))) pa_nil)) pa_nil))) (pe_cal c4 (hr.mono (by decide)) (pa_cons (pv 2) pa_nil)))))))), ?_⟩
    have st0 : Uw03.step d (.check o) = if o.length ≠ d.pieces.length ∨ (List.range d.pieces.length).all (fun i => o.contains i) = false then (d, Uw03.ok (-1)) else (d, match d.wrong o with
        | none => ⟨1, [[d.cost o]] ++ d.tell o⟩
        | some x => ⟨0, [[x.1, x.2]]⟩) := rfl
    have cond : (o.length ≠ d.pieces.length ∨ (List.range d.pieces.length).all (fun i => o.contains i) = false) ↔ checkOk d.pieces.length o = false := by
      unfold checkOk
      rw [Bool.not_eq_false']
      exact decide_eq_true_iff.symm
    refine q_when (b := !(checkOk d.pieces.length o)) (et_test (ev_neD (ep_sorted (ep_ref (ev_var rfl) hpo) (by omega)) (fun G eg => el_range (ev_is (ev_len (ev_fld (ev_var rfl) (eg _ _ ho) T.clD T.dPc fD_pc) (sq_of (eg _ _ hc1))) (by rw [hc2])) (by have := hg.nc; omega)) fun zs ⟨hz1, hz2⟩ => ?_)) (fun hb H1 e1 => ?_) (fun hb H1 e1 => ?_)
    · have z := sorted_check (n := d.pieces.length) hz1 hz2
      by_cases c : zs = zi (List.range d.pieces.length)
      · rw [decide_eq_true c, z.mp c]
      · rw [decide_eq_false c]
        cases y : checkOk d.pieces.length o with
        | true => exact absurd (z.mpr y) c
        | false => rfl
    · have c := cond.mpr (by rw [Bool.not_eq_true'] at hb; exact hb)
      exact s_one rfl e1 hd (by rw [st0, if_pos c]) ev_c q
    have cok : checkOk d.pieces.length o = true := by
      rw [Bool.not_eq_false'] at hb
      exact hb
    have c : ¬ (o.length ≠ d.pieces.length ∨ (List.range d.pieces.length).all (fun i => o.contains i) = false) := fun z => by
      have y := cond.mp z
      rw [cok] at y
      cases y
    rw [if_neg c] at st0
    have st1 : (Uw03.step d (.check o)).1 = d := by rw [st0]
    have is := isOrd_of_perm (checkOk_perm.mp cok)
    have hd1 := hd.mono e1
    obtain ⟨dx1, ho1⟩ := id hd1.obj
    refine q_asgP (ep_meth (ev_var rfl) ho1 (f3_none (by decide +kernel) (by decide +kernel) (by decide +kernel)) (ea_cons (ev_var rfl) ea_nil) (sp_stays hd1 (e1 _ _ hpo) is.lt hg.np)) fun v H2 e2 ⟨ps, ev, hst⟩ => ?_
    subst ev
    have e12 := e1.trans e2
    have hd2 := hd.mono e12
    obtain ⟨dx2, ho2⟩ := id hd2.obj
    refine q_asgP (ep_call (ea_cons (ev_fld (ev_var rfl) ho2 T.clD T.dPl fD_pl) (ea_cons (ev_fld (ev_var rfl) ho2 T.clD T.dPr fD_pr) (ea_cons (ev_var rfl) (ea_cons (ev_var rfl) ea_nil)))) (sp_wrong (look_of hd2 hg hm (e12 _ _ hpo) is) hst)) fun v H3 e3 ⟨pw, ev, hw⟩ => ?_
    subst ev
    have e13 := e12.trans e3
    have hd3 := hd.mono e13
    refine q_when (b := !(d.right o)) (et_is (et_test (ev_neE (ev_var rfl) hw (el_lst ea_nil (by decide)))) (by rw [wrong_empty])) (fun hb2 H4 e4 => ?_) (fun hb2 H4 e4 => ?_)
    · cases hwr : d.wrong o with
      | none =>
        unfold Uw03.Day.right at hb2
        rw [hwr] at hb2
        cases hb2
      | some x =>
        rw [hwr] at hw st0
        have hw4 := e4 _ _ hw
        refine s_same rfl (e13.trans e4) hd st1 (xs := .int 0 :: [] ++ (.int ((vi (wrongTold (some x))).length : Int) :: vi (wrongTold (some x)))) ?_ (el_cat (ep_ofL (el_lst (ea_cons ev_c ea_nil) (by show 1 ≤ 100000; decide))) (fun G eg => ep_as_list (ep_ref (ev_var rfl) (eg _ _ hw4)) (by show 2 ≤ 2000000; decide)) (by show 1 + 3 ≤ 100000; decide)) q
        unfold outOf
        rw [st0]
        rfl
    · have hwr : d.wrong o = none := by
        unfold Uw03.Day.right at hb2
        cases z : d.wrong o with
        | none => rfl
        | some x => rw [z] at hb2; cases hb2
      rw [hwr] at st0
      have hd4 := hd3.mono e4
      obtain ⟨dx4, ho4⟩ := id hd4.obj
      have hst4 := hst.mono mono_sy (e3.trans e4)
      have tl := toldAll_small (o := o) hg.np
      refine s_same rfl (e13.trans e4) hd st1 (xs := (.int 1 :: [] ++ (.int ((1 : Nat) : Int) :: [.int (d.cost o : Nat)])) ++ vi (toldAll (staysOf d o))) ?_ (el_cat (ep_ofL (el_cat (ep_ofL (el_lst (ea_cons ev_c ea_nil) (by show 1 ≤ 100000; decide))) (fun G eg => ep_as_list (xs := [.int (d.cost o : Nat)]) (ep_ofL (el_lst (ea_cons (ev_of (ep_call (ea_cons (ev_fld (ev_var rfl) (eg _ _ ho4) T.clD T.dPl fD_pl) (ea_cons (ev_var rfl) ea_nil)) (sp_cost hg (hd4.mono eg).pls (hst4.mono mono_sy eg))) fun v _ _ e => e) ea_nil) (by show 1 ≤ 100000; decide))) (by show 1 ≤ 2000000; decide)) (by show 1 + 2 ≤ 100000; decide))) (fun G eg => ep_call (ea_cons (ev_var rfl) ea_nil) (sp_told hg.np (hst4.mono mono_sy eg))) (by simp only [List.length_append, List.length_cons, List.length_nil, vi_len]; omega)) q
      unfold outOf
      rw [st0]
      show _ = vz ((1 : Int) :: ([[d.cost o]] ++ d.tell o).flatMap fun w => (w.length : Int) :: w.map fun (x : Nat) => (x : Int))
      rw [List.flatMap_append]
      show _ = V.int 1 :: vz (_ ++ _)
      rw [vz_app, tell_vz]
      rfl

/-! ### work -/
def ArgsWork : List V → Hp → Uw03.Call → Prop := fun ws _ c => ws = [] ∧ c = .work
abbrev nWork : List Str := ["self", "cost", "piece", "player"]
theorem sc_work : FnScope nWork ["self"] (defScope (xDay 10)) := ⟨rfl, rfl, rfl, by decide +kernel, rfl, by decide +kernel, by decide +kernel⟩
theorem zi_sum (l : List Nat) : (zi l).sum = (Uw03.total l : Int) := sum_total l
theorem rates_le {d : Uw03.Day} {m : Nat} (hg : Good d m) : ∀ l : List Nat, Uw03.total (l.map (rateOf d)) ≤ 1000 * l.length
  | [] => Nat.le_refl _
  | x :: l => by
    rw [List.map_cons, total_cons, List.length_cons]
    have h1 := rates_le hg l
    have h2 : rateOf d x ≤ 1000 := by
      unfold rateOf
      cases z : d.players[x]? with
      | none => exact Nat.zero_le _
      | some p => exact (hg.pl p (List.mem_of_getElem? z)).1
    omega
theorem ok_work {f : Addr} {fd : FuncData} (F : Fun K "work" "Day.work" (xDay 10) f fd) (T : Txt K mg cP cC cS cD) (c3 : Cal P w K mg base "as_list" 1 ["some"] spAsList) : FnOk P w K mg base CX0 2 f fd ["self"] (spCall cP cC cD ArgsWork) := by
  refine F.ok sc_work (fun vs H Q E h => ?_) (fun cdv A outer s H vs Q E hr h => ?_)
  · obtain ⟨a, pl, pc, pr, N, ws, d, m, c, rfl, _, _, _, ⟨rfl, _⟩, _⟩ := h
    rfl
  · obtain ⟨a, pl, pc, pr, N, ws, d, m, c, rfl, hd, hg, hm, ⟨rfl, rfl⟩, q⟩ := h
    have nd := sc_work.nd
    obtain ⟨dx, ho⟩ := hd.obj
    obtain ⟨lv, hl1, hl2, hl3⟩ := id hd.pls
    obtain ⟨cv, hc1, hc2, hc3⟩ := id hd.pcs
    have st1 : (Uw03.step d .work).1 = d := rfl
    refine ⟨_, pss_cons (ps_set (i := 1) nd rfl (.inl rfl) pe_int)
      (pss_cons (ps_for PassesOwn.never rfl (pi_list (pe_fld (pv 0) rfl)) (pg_name (i := 2) nd rfl (.inl rfl))
        (pss_one (ps_set (i := 1) nd rfl (.inl rfl) (pe_op op_add (pv 1) (pe_op op_mul (pe_fld (pv 2) rfl) (pe_callB (cr_sum rfl) (by rfl) T.zSum (by decide +kernel) (pa_cons (by exact pe_lc (own := [("player", 3)]) (g := gName 3) (tt := tYes) (te := tFld K (tOp (rIxL K) (tFld K (tVar 0) "players") (tVar 3)) "cost") rfl nd (pi_list (pe_fld (pv 2) rfl)) (blkOk_by (N := nWork) (sc := defScope (xDay 10)) (by decide +kernel)) (fun _ _ _ _ _ => pg_name (i := 3) nd rfl (Or.inl rfl)) (fun _ _ _ _ _ => pts_nil) (fun _ _ _ _ _ => pe_fld (pe_ix ix_list (pe_fld (pv 0) rfl) (pv 3) (fun _ _ => rfl)) rfl)) pa_nil)))))))
      (pss_one (ps_ret (pe_op op_cat (pe_lst (pa_cons (pv 1) pa_nil)) (pe_cal c3 hr (pa_cons (pe_lst (pa_cons (pe_callB (cr_sum rfl) (by rfl) T.zSum (by decide +kernel) (pa_cons (by exact pe_lc (own := [("piece", 2)]) (g := gName 2) (tt := tYes) (te := tFld K (tVar 2) "minutes") rfl nd (pi_list (pe_fld (pv 0) rfl)) (blkOk_by (N := nWork) (sc := defScope (xDay 10)) (by decide +kernel)) (fun _ _ _ _ _ => pg_name (i := 2) nd rfl (Or.inl rfl)) (fun _ _ _ _ _ => pts_nil) (fun _ _ _ _ _ => pe_fld (pv 2) rfl)) pa_nil)) pa_nil)) pa_nil)))))), ?_⟩
    refine q_asg ev_c fun H1 e1 => ?_
    refine q_forLn (K := K) (a := pc) (xs := cv) (ev_fld (ev_var rfl) (e1 _ _ ho) T.clD T.dPc fD_pc) (sq_of (e1 _ _ hc1)) (fun i σ' H' => ∃ y2 : Option V, σ' = [some (.ref a), some (.int (Uw03.total ((d.pieces.take i).map (pieceCost d)) : Nat)), y2, none] ∧ Ex H H') (fun H2 e2 => ⟨none, rfl, e1.trans e2⟩) (fun i σ' H' _ ⟨_, _, e⟩ => sq_of (e _ _ hc1)) (fun i x σ' H' hx p => ?_) (fun σ' H' p => ?_)
    · obtain ⟨y2, rfl, e⟩ := p
      obtain ⟨pie, hip, hpr⟩ := hd.pcs.get' hc1 hx
      obtain ⟨ap, dxp, qp, rfl, _, hap, hqp⟩ := hpr
      have ok := hg.pc pie (List.mem_of_getElem? hip)
      have hlen : pie.players.length ≤ 6 := by
        have := List.Nodup.length_le_of_subset (l₂ := List.range d.players.length) ok.nd fun x hx => List.mem_range.mpr (ok.lt x hx)
        rw [List.length_range] at this
        exact Nat.le_trans this hg.np
      have hsum := rates_le hg pie.players
      refine s_asg (ev_is (ev_op (ev_var rfl) (ev_op (ev_fld (ev_var rfl) (e _ _ hap) T.clC T.cMin fC_min) (ev_sum (l := pie.players.map (rateOf d)) ((ep_lcC (R := RInt) (n := pie.players.length) (f := fun _ => true) (d := fun i => rateOf d (pie.players.getD i 0)) (by have z := iw_list (K := K) (σ := [some (.ref a), some (.int (Uw03.total ((d.pieces.take i).map (pieceCost d)) : Nat)), some (.ref ap), none]) (tl := tFld K (tVar 2) "players") (ev_fld (ev_var rfl) (e _ _ hap) T.clC T.cPl fC_pl) (sq_of (e _ _ hqp)); rw [vi_len] at z; exact z) (by omega) (tgm_name 3) mono_int (fun _ => off_int) (fun j y G1 G2 hj eg hy => ?_)).imp fun v G _ ⟨p, b1, _, b3⟩ => ⟨p, b1, ?_⟩)) (rv_I (.inr ⟨?_, ?_⟩))) rv_I0) ?_) fun H2 e2 => ⟨_, rfl, e.trans e2⟩
      · obtain ⟨rfl, hy⟩ := hy
        obtain ⟨n, hn, rfl⟩ := vi_of hy
        have hnl : n < d.players.length := ok.lt n (List.mem_of_getElem? hn)
        have pm : d.players[n]? = some d.players[n] := List.getElem?_eq_getElem hnl
        have lm : lv[n]? = some lv[n] := List.getElem?_eq_getElem (by omega)
        obtain ⟨pa, pdx, pe, hpa⟩ := hl3 n _ _ pm lm
        have eall := e.trans eg
        refine ⟨rfl, Ex.refl _, et_yes, fun _ => ep_of (ev_is (ev_fld (ev_op (ev_fld (ev_var rfl) (eall _ _ ho) T.clD T.dPl fD_pl) (ev_var rfl) (rv_ixL (sq_of (eall _ _ hl1)) (atI_nat (by rw [lm, pe])))) (eall _ _ hpa) T.clP T.pCost fP_cost) (congrArg V.int ?_)) fun _ _ => rfl⟩
        have eg2 : pie.players.getD j 0 = n := by rw [List.getD_eq_getElem?_getD, hn]; rfl
        rw [eg2]
        unfold rateOf
        rw [pm]
      · rw [givenD_all, range_at 0 (rateOf d)] at b3
        exact rep_int.mp b3
      · rw [zi_sum]
        omega
      · rw [zi_sum]
        omega
      · refine congrArg V.int ?_
        rw [zi_sum, List.take_add_one, hip, List.map_append, total_append]
        show ((Uw03.total ((d.pieces.take i).map (pieceCost d)) : Nat) : Int) + (pie.long : Int) * (Uw03.total (pie.players.map (rateOf d)) : Int) = ((_ + Uw03.total [pieceCost d pie] : Nat) : Int)
        rw [total_one]
        unfold pieceCost
        rw [Int.natCast_add, Int.natCast_mul]
    · obtain ⟨y2, rfl, e⟩ := p
      rw [hc2, List.take_length]
      refine s_same rfl e hd st1 (xs := .int (Uw03.total (d.pieces.map (pieceCost d)) : Nat) :: [] ++ (.int ((1 : Nat) : Int) :: [.int (Uw03.total (d.pieces.map fun p => p.long) : Nat)])) ?_ (el_cat (ep_ofL (el_lst (ea_cons (ev_var rfl) ea_nil) (by show 1 ≤ 100000; decide))) (fun G eg => ep_as_list (xs := [.int (Uw03.total (d.pieces.map fun p => p.long) : Nat)]) (ep_ofL (el_lst (ea_cons (ev_is (ev_sum (l := d.pieces.map fun p => p.long) ((ep_lcC (R := RInt) (n := d.pieces.length) (f := fun _ => true) (d := fun i => (d.pieces.getD i ⟨0, []⟩).long) (by have z := iw_list (K := K) (σ := [some (.ref a), some (.int (Uw03.total (d.pieces.map (pieceCost d)) : Nat)), y2, none]) (tl := tFld K (tVar 0) "pieces") (ev_fld (ev_var rfl) (eg _ _ (e _ _ ho)) T.clD T.dPc fD_pc) (sq_of (eg _ _ (e _ _ hc1))); rw [hc2] at z; exact z) (by have := hg.nc; omega) (tgm_name 2) mono_int (fun _ => off_int) (fun j y G1 G2 hj eg2 hy => ?_)).imp fun v G2 _ ⟨p, b1, _, b3⟩ => ⟨p, b1, ?_⟩)) ?_) ea_nil) (by show 1 ≤ 100000; decide))) (by show 1 ≤ 2000000; decide)) (by show 1 + 2 ≤ 100000; decide)) q
      · unfold outOf
        show _ = vz ((d.work : Int) :: [[Uw03.total (d.pieces.map fun p => p.long)]].flatMap fun w => (w.length : Int) :: w.map fun (x : Nat) => (x : Int))
        rw [work_eq hg.pc]
        rfl
      · obtain ⟨rfl, hy⟩ := hy
        obtain ⟨pie, hip, hpr⟩ := hd.pcs.get' hc1 hy
        obtain ⟨ap, dxp, qp, rfl, _, hap, hqp⟩ := hpr
        refine ⟨rfl, Ex.refl _, et_yes, fun _ => ep_of (ev_is (ev_fld (ev_var rfl) (eg2 _ _ (eg _ _ (e _ _ hap))) T.clC T.cMin fC_min) (congrArg V.int ?_)) fun _ _ => rfl⟩
        rw [List.getD_eq_getElem?_getD, hip]
        rfl
      · rw [zi_sum]
      · rw [givenD_all, range_at (⟨0, []⟩ : Uw03.Piece) (fun p : Uw03.Piece => p.long) d.pieces] at b3
        exact rep_int.mp b3
end
end Reh
end RdCheck
section RdDoes
/-! does: one call, told by its number. -/
namespace Reh
open PySem PySem.Spec PyProof.Rows L2 Evl
section
variable {P : Program} {w : World} {K : PySem.W.Frag} {mg : Str → Option Value} {base : Heap} {cP cC cS cD : Addr}
theorem Frame.back {H0 H2 H' : Hp} {a pl pc pr pl' pc' pr' : Addr} (e : Ex H0 H2) (f : Frame H2 H' a pl pc pr pl' pc' pr') : Frame H0 H' a pl pc pr pl' pc' pr' :=
  ⟨fun b o hb n0 n1 n2 n3 => f.keep b o (e _ _ hb) n0 n1 n2 n3, f.l1.imp id (fresh_back e), f.l2.imp id (fresh_back e), f.l3.imp id (fresh_back e)⟩
/-- the answer of the day's own method, handed on -/
theorem s_does {σ : L2.St} {H H0 : Hp} {D : Ends} {ta : TA} {nm : Str} {N : List Addr} {a pl pc pr : Addr} {d : Uw03.Day} {m : Nat} {c : Uw03.Call} {Q : VK} {ws : List V} {Args : List V → Hp → Uw03.Call → Prop} (hD : D.rt = Q) (e0 : Ex H0 H) (hd : DayAt cP cC cD N H0 a pl pc pr d) (hg : Good d m) (hm : m ≤ 40000)
    (hs : σ[0]? = some (some (.ref a))) (n1 : (nm == ("players" : Str)) = false) (n2 : (nm == ("pieces" : Str)) = false) (n3 : (nm == ("pairs" : Str)) = false) (hv : EvA ta σ H ws) (ha : ∀ H1, Ex H H1 → Args ws H1 c)
    (q : ∀ p H' pl' pc' pr', H0 p = none → H' p = some (.lst (vz (outOf d c))) → DayAt cP cC cD N H' a pl' pc' pr' (Uw03.step d c).1 → Frame H0 H' a pl pc pr pl' pc' pr' → Q (.ref p) H') : tRet (tMeth cD nm (spCall cP cC cD Args) [] E0 (tVar 0) ta) D σ H := by
  obtain ⟨dx, ho⟩ := hd.obj
  refine ⟨_, hs, a, dx, _, rfl, e0 _ _ ho, f3_none n1 n2 n3, hv H (Ex.refl _) _ fun H2 e2 => ?_⟩
  have e := e0.trans e2
  exact ⟨a, pl, pc, pr, N, ws, d, m, c, by rw [List.append_nil], hd.mono e, hg, hm, ha H2 e2, fun p H' pl' pc' pr' hp h1 h2 f => by
    rw [hD]
    exact q p H' pl' pc' pr' (fresh_back e hp) h1 h2 (f.back e)⟩
def ArgsDoes : List V → Hp → Uw03.Call → Prop := fun ws H c => ∃ (p : Nat) (xs row : List Nat) (sm rw : Addr), ws = [.int (p : Int), .ref sm, .ref rw] ∧ H sm = some (.lst (vi xs)) ∧ H rw = some (.lst (vi row)) ∧ CallIs p xs row c
theorem sc_does : FnScope ["self", "word", "some", "row"] ["self", "word", "some", "row"] (defScope (xDay 11)) := ⟨rfl, rfl, rfl, by decide +kernel, rfl, by decide +kernel, by decide +kernel⟩
theorem ok_does {f : Addr} {fd : FuncData} (F : Fun K "does" "Day.does" (xDay 11) f fd) (T : Txt K mg cP cC cS cD)
    (c1 : CalM P w K mg base cD "begin" 1 ["self"] (spCall cP cC cD ArgsBegins)) (c2 : CalM P w K mg base cD "add_player" 3 ["self", "cost", "since", "till"] (spCall cP cC cD ArgsPlayer)) (c3 : CalM P w K mg base cD "add_piece" 3 ["self", "minutes", "some"] (spCall cP cC cD ArgsPiece))
    (c4 : CalM P w K mg base cD "add_pair" 1 ["self", "one", "other"] (spCall cP cC cD ArgsAhead)) (c5 : CalM P w K mg base cD "best" 7 ["self"] (spCall cP cC cD ArgsBest)) (c6 : CalM P w K mg base cD "check" 6 ["self", "order"] (spCall cP cC cD ArgsCheck)) (c7 : CalM P w K mg base cD "work" 2 ["self"] (spCall cP cC cD ArgsWork)) :
    FnOk P w K mg base CX0 8 f fd ["self", "word", "some", "row"] (spCall cP cC cD ArgsDoes) := by
  refine F.ok sc_does (fun vs H Q E h => ?_) (fun cdv A outer s H vs Q E hr h => ?_)
  · obtain ⟨a, pl, pc, pr, N, ws, d, m, c, rfl, _, _, _, ⟨p, xs, row, sm, rw, rfl, _⟩, _⟩ := h
    rfl
  · obtain ⟨a, pl, pc, pr, N, ws, d, m, c, rfl, hd, hg, hm, ⟨n, xs, row, sm, rw, rfl, hsm, hrw, hc⟩, q⟩ := h
    refine ⟨_, pss_cons (ps_if (pt_cmpR op_eq (pv 1) pe_int (nomark _)) (pss_one (ps_ret (pe_calm0 (pv 0) T.clD c1 (hr.mono (by decide))))) pss_nil)
      (pss_cons (ps_if (pt_cmpR op_eq (pv 1) pe_int (nomark _)) (pss_one (ps_ret (pe_calm (pv 0) T.clD c2 (hr.mono (by decide)) (pa_cons (pe_ix ix_list (pv 2) pe_int (fun _ _ => rfl)) (pa_cons (pe_ix ix_list (pv 2) pe_int (fun _ _ => rfl)) (pa_cons (pe_ix ix_list (pv 2) pe_int (fun _ _ => rfl)) pa_nil)))))) pss_nil)
      (pss_cons (ps_if (pt_cmpR op_eq (pv 1) pe_int (nomark _)) (pss_one (ps_ret (pe_calm (pv 0) T.clD c3 (hr.mono (by decide)) (pa_cons (pe_ix ix_list (pv 2) pe_int (fun _ _ => rfl)) (pa_cons (pv 3) pa_nil))))) pss_nil)
      (pss_cons (ps_if (pt_cmpR op_eq (pv 1) pe_int (nomark _)) (pss_one (ps_ret (pe_calm (pv 0) T.clD c4 (hr.mono (by decide)) (pa_cons (pe_ix ix_list (pv 2) pe_int (fun _ _ => rfl)) (pa_cons (pe_ix ix_list (pv 2) pe_int (fun _ _ => rfl)) pa_nil))))) pss_nil)
      (pss_cons (ps_if (pt_cmpR op_eq (pv 1) pe_int (nomark _)) (pss_one (ps_ret (pe_calm0 (pv 0) T.clD c5 hr))) pss_nil)
      (pss_cons (ps_if (pt_cmpR op_eq (pv 1) pe_int (nomark _)) (pss_one (ps_ret (pe_calm (pv 0) T.clD c6 (hr.mono (by decide)) (pa_cons (pv 3) pa_nil)))) pss_nil)
      (pss_one (ps_ret (pe_calm0 (pv 0) T.clD c7 (hr.mono (by decide)))))))))), ?_⟩
    have ix : ∀ {H1 : Hp} (e : Ex H H1) {j : Nat} {v : V} (hv : (vi xs)[j]? = some v), Ev (tOp (rIxL K) (tVar 2) (tC (.int (j : Int)))) (L2.start ["self", "word", "some", "row"] [.ref a, .int (n : Int), .ref sm, .ref rw]) H1 v := fun e _ _ hv => ev_op (ev_var rfl) ev_c (rv_ixL (sq_of (e _ _ hsm)) (atI_nat hv))
    refine q_when (b := decide ((n : Int) = 0)) (et_test (ev_op (ev_var rfl) ev_c rv_eqI)) (fun hb H1 e1 => ?_) (fun hb H1 e1 => ?_)
    · have hn : n = 0 := by have := of_decide_eq_true hb; omega
      subst hn
      cases hc
      exact s_does rfl e1 hd hg hm rfl (by decide +kernel) (by decide +kernel) (by decide +kernel) ea_nil (fun _ _ => ⟨rfl, rfl⟩) q
    have m0 := of_decide_eq_false hb
    refine q_when (b := decide ((n : Int) = 1)) (et_test (ev_op (ev_var rfl) ev_c rv_eqI)) (fun hb H2 e2 => ?_) (fun hb H2 e2 => ?_)
    · have hn : n = 1 := by have := of_decide_eq_true hb; omega
      subst hn
      cases hc
      exact s_does rfl (e1.trans e2) hd hg hm rfl (by decide +kernel) (by decide +kernel) (by decide +kernel) (ea_cons (ix (e1.trans e2) (j := 0) rfl) (ea_cons (ix (e1.trans e2) (j := 1) rfl) (ea_cons (ix (e1.trans e2) (j := 2) rfl) ea_nil))) (fun _ _ => ⟨_, _, _, rfl, rfl⟩) q
    have m1 := of_decide_eq_false hb
    have e12 := e1.trans e2
    refine q_when (b := decide ((n : Int) = 2)) (et_test (ev_op (ev_var rfl) ev_c rv_eqI)) (fun hb H3 e3 => ?_) (fun hb H3 e3 => ?_)
    · have hn : n = 2 := by have := of_decide_eq_true hb; omega
      subst hn
      cases hc
      rename_i k hl
      exact s_does rfl (e12.trans e3) hd hg hm rfl (by decide +kernel) (by decide +kernel) (by decide +kernel) (ea_cons (ix (e12.trans e3) (j := 0) rfl) (ea_cons (ev_var rfl) ea_nil)) (fun G eg => ⟨_, _, _, rfl, eg _ _ ((e12.trans e3) _ _ hrw), hl, rfl⟩) q
    have m2 := of_decide_eq_false hb
    have e13 := e12.trans e3
    refine q_when (b := decide ((n : Int) = 3)) (et_test (ev_op (ev_var rfl) ev_c rv_eqI)) (fun hb H4 e4 => ?_) (fun hb H4 e4 => ?_)
    · have hn : n = 3 := by have := of_decide_eq_true hb; omega
      subst hn
      cases hc
      exact s_does rfl (e13.trans e4) hd hg hm rfl (by decide +kernel) (by decide +kernel) (by decide +kernel) (ea_cons (ix (e13.trans e4) (j := 0) rfl) (ea_cons (ix (e13.trans e4) (j := 1) rfl) ea_nil)) (fun _ _ => ⟨_, _, rfl, rfl⟩) q
    have m3 := of_decide_eq_false hb
    have e14 := e13.trans e4
    refine q_when (b := decide ((n : Int) = 4)) (et_test (ev_op (ev_var rfl) ev_c rv_eqI)) (fun hb H5 e5 => ?_) (fun hb H5 e5 => ?_)
    · have hn : n = 4 := by have := of_decide_eq_true hb; omega
      subst hn
      cases hc
      exact s_does rfl (e14.trans e5) hd hg hm rfl (by decide +kernel) (by decide +kernel) (by decide +kernel) ea_nil (fun _ _ => ⟨rfl, rfl⟩) q
    have m4 := of_decide_eq_false hb
    have e15 := e14.trans e5
    refine q_when (b := decide ((n : Int) = 5)) (et_test (ev_op (ev_var rfl) ev_c rv_eqI)) (fun hb H6 e6 => ?_) (fun hb H6 e6 => ?_)
    · have hn : n = 5 := by have := of_decide_eq_true hb; omega
      subst hn
      cases hc
      rename_i hl
      exact s_does rfl (e15.trans e6) hd hg hm rfl (by decide +kernel) (by decide +kernel) (by decide +kernel) (ea_cons (ev_var rfl) ea_nil) (fun G eg => ⟨_, _, rfl, eg _ _ ((e15.trans e6) _ _ hrw), hl, rfl⟩) q
    have m5 := of_decide_eq_false hb
    have hn : n = 6 := by
      cases hc <;> omega
    subst hn
    cases hc
    exact s_does rfl (e15.trans e6) hd hg hm rfl (by decide +kernel) (by decide +kernel) (by decide +kernel) ea_nil (fun _ _ => ⟨rfl, rfl⟩) q

/-! ### row_at -/
theorem cut_mid {zs t : List Int} {i : Nat} {xs : List Nat} (h : zs.drop i = zi xs ++ t) (hi : i ≤ zs.length) : cutV (zs.map V.int) (some (i : Int)) (some ((i + xs.length : Nat) : Int)) = vi xs := by
  have hl : (zs.drop i).length = xs.length + t.length := by rw [h, List.length_append, zi_len]
  rw [List.length_drop] at hl
  unfold cutV
  rw [HT.sIx_nat, HT.sIx_nat, List.length_map, Nat.min_eq_left hi, Nat.min_eq_left (by omega), ← List.map_drop, h, ← List.map_take, Nat.add_sub_cancel_left, vi_zi]
  rw [show xs.length = (zi xs).length from (zi_len xs).symm, List.take_left']
  rfl
theorem drop_cell {zs t : List Int} {i : Nat} {z : Int} (h : zs.drop i = z :: t) : zs[i]? = some z ∧ i < zs.length ∧ zs.drop (i + 1) = t := by
  have h1 : (zs.drop i)[0]? = some z := by rw [h]; rfl
  rw [List.getElem?_drop, Nat.add_zero] at h1
  refine ⟨h1, (List.getElem?_eq_some_iff.mp h1).1, ?_⟩
  rw [← List.drop_drop, h]
  rfl
def spRowAt (K : PySem.W.Frag) : Sp := fun vs H Q _ => ∃ (a : Addr) (zs t : List Int) (i fin k : Nat) (row : List Nat), vs = [.ref a, .int (i : Int), .int (k : Int)] ∧ SqL K H a (zs.map V.int) ∧
  ((k = 0 ∧ row = [] ∧ fin = i) ∨ (k = 1 ∧ zs.drop i = zi (row.length :: row) ++ t ∧ fin = i + 1 + row.length)) ∧ ∀ H' b p, Ex H H' → H' b = some (.tup [.ref p, .int (fin : Int)]) → H' p = some (.lst (vi row)) → Q (.ref b) H'
abbrev nRowAt : List Str := ["calls", "at", "many", "end"]
theorem sc_row_at : FnScope nRowAt ["calls", "at", "many"] (defScope xRowAt) := ⟨rfl, rfl, rfl, by decide +kernel, rfl, by decide +kernel, by decide +kernel⟩
theorem ep_tup {ta : TA} {σ : L2.St} {H : Hp} {PA : List V → Hp → Prop} (h : EvAP ta σ H PA) (hl : ∀ vs H1, PA vs H1 → vs.length ≤ 100000) : EvP (tTup ta) σ H fun v H1 => ∃ b vs H0, v = .ref b ∧ H1 b = some (.tup vs) ∧ PA vs H0 ∧ Ex H0 H1 :=
  fun H1 e Q q => h H1 e _ fun vs H2 e2 pa => ⟨sz_of (hl vs H2 pa), fun b hb => q _ _ (e2.trans (Ex.new hb)) ⟨b, vs, H2, rfl, upd_same, pa, Ex.new hb⟩⟩
theorem ok_row_at {f : Addr} {fd : FuncData} (F : Fun K "row_at" "row_at" xRowAt f fd) : FnOk P w K mg base CX0 1 f fd ["calls", "at", "many"] (spRowAt K) := by
  refine F.ok sc_row_at (fun vs H Q E h => ?_) (fun cdv A outer s H vs Q E hr h => ?_)
  · obtain ⟨a, zs, t, i, fin, k, row, rfl, _⟩ := h
    rfl
  · obtain ⟨a, zs, t, i, fin, k, row, rfl, hS, hk, q⟩ := h
    have nd := sc_row_at.nd
    refine ⟨_, pss_cons (ps_if (pt_cmpR op_eq (pv 2) pe_int (nomark _)) (pss_one (ps_ret (pe_tup (pa_cons (pe_lst pa_nil) (pa_cons (pv 1) pa_nil))))) pss_nil)
      (pss_cons (ps_set (i := 3) nd rfl (.inl rfl) (pe_op op_add (pe_op op_add (pv 1) pe_int) (pe_ix ix_list (pv 0) (pv 1) (fun _ _ => rfl))))
      (pss_one (ps_ret (pe_tup (pa_cons (pe_slice sl_list (pv 0) (po_some (pe_op op_add (pv 1) pe_int)) (po_some (pv 3))) (pa_cons (pv 3) pa_nil)))))), ?_⟩
    refine q_when (b := decide ((k : Int) = 0)) (et_test (ev_op (ev_var rfl) ev_c rv_eqI)) (fun hb H1 e1 => ?_) (fun hb H1 e1 => ?_)
    · have hz := of_decide_eq_true hb
      rcases hk with ⟨rfl, rfl, rfl⟩ | ⟨rfl, _⟩
      · refine s_retP (ep_tup (eap_cons (ep_ofL (el_lst ea_nil (by decide))) (fun v G1 e p => ea_p (ea_cons (ev_var rfl) ea_nil)) (PB := fun vs G => ∃ p, vs = [.ref p, .int (fin : Int)] ∧ G p = some (.lst [])) fun v vs G1 G2 e e' ⟨p, ev, hp⟩ z => ⟨p, by rw [ev, z], e' _ _ hp⟩) fun vs _ ⟨p, z, _⟩ => by rw [z]; show 2 ≤ 100000; decide) fun v H2 e2 ⟨b, vs, H0, ev, hb, ⟨p, z, hp⟩, e0⟩ => ?_
        subst ev z
        exact q H2 b p (e1.trans e2) hb (e0 _ _ hp)
      · omega
    · have hz := of_decide_eq_false hb
      rcases hk with ⟨rfl, _⟩ | ⟨rfl, hd, rfl⟩
      · exact absurd rfl hz
      · obtain ⟨d1, d2, d3⟩ := drop_cell (t := zi row ++ t) hd
        have hS1 := ex_l e1 hS
        refine q_asg (ev_is (ev_op (ev_op (ev_var rfl) ev_c rv_I0) (ev_op (ev_var rfl) (ev_var rfl) (rv_ixL hS1 (atI_nat (by rw [List.getElem?_map, d1]; rfl)))) rv_I0) (show _ = V.int ((i + 1 + row.length : Nat) : Int) from congrArg V.int (by show ((i : Int) + 1 + (row.length : Int) = ((i + 1 + row.length : Nat) : Int)); omega))) fun H2 e2 => ?_
        have hS2 := ex_l e2 hS1
        refine s_retP (ep_tup (eap_cons (ep_ofL (el_sl (xs := zs.map V.int) (lo := some ((i + 1 : Nat) : Int)) (hi := some ((i + 1 + row.length : Nat) : Int)) (ev_var rfl) (eo_some (ev_is (ev_op (ev_var rfl) ev_c rv_I0) (congrArg V.int (by omega)))) (eo_some (ev_var rfl)) hS2)) (fun v G1 e p => ea_p (ea_cons (ev_var rfl) ea_nil)) (PB := fun vs G => ∃ p, vs = [.ref p, .int ((i + 1 + row.length : Nat) : Int)] ∧ G p = some (.lst (vi row))) fun v vs G1 G2 e e' ⟨p, ev, hp⟩ z => ⟨p, by rw [ev, z], ?_⟩) fun vs _ ⟨p, z, _⟩ => by rw [z]; show 2 ≤ 100000; decide) fun v H3 e3 ⟨b, vs, H0, ev, hb, ⟨p, z, hp⟩, e0⟩ => ?_
        · rw [e' _ _ hp, cut_mid d3 (by omega)]
        · subst ev z
          exact q H3 b p ((e1.trans e2).trans e3) hb (e0 _ _ hp)
end
end Reh
end RdDoes
section RdAnswers
/-! answers: the calls of what is handed in, one behind another. -/
namespace Reh
open PySem PySem.Spec PyProof.Rows L2 Evl
theorem parsed_cons {l : List Int} {cs : List Uw03.Call} (h : Parsed l cs) (hl : l ≠ []) : ∃ p xs row c t cs', CallIs p xs row c ∧ Parsed t cs' ∧ l = zi ([p] ++ xs ++ rowIn p row) ++ t ∧ cs = c :: cs' := by
  cases h with
  | nil => exact absurd rfl hl
  | cons hc ht => exact ⟨_, _, _, _, _, _, hc, ht, rfl, rfl⟩
theorem parsed_nil {l : List Int} {cs : List Uw03.Call} (h : Parsed l cs) (hl : l = []) : cs = [] := by
  cases h with
  | nil => rfl
  | cons hc ht => cases hl
theorem drop_mid {zs t : List Int} {i : Nat} {xs : List Nat} (h : zs.drop i = zi xs ++ t) (hi : i ≤ zs.length) : zs.drop (i + xs.length) = t ∧ i + xs.length ≤ zs.length := by
  have hl : (zs.drop i).length = xs.length + t.length := by rw [h, List.length_append, zi_len]
  rw [List.length_drop] at hl
  refine ⟨?_, by omega⟩
  rw [← List.drop_drop, h, ← zi_len xs, List.drop_left]
theorem zi_app (l r : List Nat) : zi (l ++ r) = zi l ++ zi r := List.map_append ..
/-- how many numbers, how many lists stand behind a call's number -/
theorem call_nums {p : Nat} {xs row : List Nat} {c : Uw03.Call} (h : CallIs p xs row c) : ([.int 0, .int 3, .int 1, .int 2, .int 0, .int 0, .int 0] : List V)[p]? = some (.int (xs.length : Int)) := by
  cases h <;> rfl
theorem call_lists {p : Nat} {xs row : List Nat} {c : Uw03.Call} (h : CallIs p xs row c) : ∃ k : Nat, ([.int 0, .int 0, .int 1, .int 0, .int 0, .int 1, .int 0] : List V)[p]? = some (.int (k : Int)) ∧ ((k = 0 ∧ row = [] ∧ rowIn p row = []) ∨ (k = 1 ∧ rowIn p row = row.length :: row)) := by
  cases h with
  | begins => exact ⟨0, rfl, .inl ⟨rfl, rfl, rfl⟩⟩
  | player => exact ⟨0, rfl, .inl ⟨rfl, rfl, rfl⟩⟩
  | piece => exact ⟨1, rfl, .inr ⟨rfl, rfl⟩⟩
  | ahead => exact ⟨0, rfl, .inl ⟨rfl, rfl, rfl⟩⟩
  | best => exact ⟨0, rfl, .inl ⟨rfl, rfl, rfl⟩⟩
  | check => exact ⟨1, rfl, .inr ⟨rfl, rfl⟩⟩
  | work => exact ⟨0, rfl, .inl ⟨rfl, rfl, rfl⟩⟩
theorem upd_none {H : Hp} {p b : Addr} {o : HO} (h : upd H p o b = none) : b ≠ p ∧ H b = none := by
  by_cases c : b = p
  · rw [c, upd_same] at h
    cases h
  · rw [upd_ne c] at h
    exact ⟨c, h⟩
theorem el_isL {te : TE} {σ : L2.St} {H : Hp} {xs ys : List V} (h : EvL te σ H xs) (e : xs = ys) : EvL te σ H ys := by
  rw [← e]
  exact h
section
variable {P : Program} {w : World} {K : PySem.W.Frag} {mg : Str → Option Value} {base : Heap} {cP cC cS cD : Addr}
theorem ep_day {σ : L2.St} {H : Hp} : EvP (tMake cD (spDayInit cP cC cD) [] E0 tNil) σ H fun v H' => ∃ ad pl pc pr, v = .ref ad ∧ H ad = none ∧ H pl = none ∧ H pc = none ∧ H pr = none ∧ DayAt cP cC cD [] H' ad pl pc pr Uw03.init := fun H1 e Q q => by
  refine fun x dx nx nd ne => ⟨x, dx, rfl, upd_same, fun H' pl pc pr hd h1 h2 h3 hk => ⟨rfl, q _ H' (fun b o hb => hk b o ?_ (ne_of_none hb nx)) ⟨x, pl, pc, pr, rfl, fresh_back e nx, ?_, ?_, ?_, hd⟩⟩⟩
  · rw [upd_ne (ne_of_none hb nx), upd_ne (ne_of_none hb nd)]
    exact hb
  · exact fresh_back e (upd_none (upd_none h1).2).2
  · exact fresh_back e (upd_none (upd_none h2).2).2
  · exact fresh_back e (upd_none (upd_none h3).2).2
/-- behind some turns -/
structure TurnAt (cP cC cD : Addr) (H : Hp) (zs : List Int) (cs0 : List Uw03.Call) (ad pf : Addr) (i : Nat) (d : Uw03.Day) (k : Nat) (cs : List Uw03.Call) (done : List Int) (pl pc pr : Addr) (H' : Hp) : Prop where
  le : i ≤ zs.length
  ps : Parsed (zs.drop i) cs
  gd : Good d k
  ki : k ≤ i
  out : done ++ runOut d cs = runOut Uw03.init cs0
  fnd : H' pf = some (.lst (vz done))
  day : DayAt cP cC cD [pf] H' ad pl pc pr d
  f0 : pf ≠ ad
  f1 : pf ≠ pl
  f2 : pf ≠ pc
  f3 : pf ≠ pr
  ex : Ex H H'
  n0 : H ad = none
  n1 : H pl = none
  n2 : H pc = none
  n3 : H pr = none
  nf : H pf = none
theorem DayAt.off {N : List Addr} {H : Hp} {a pl pc pr pf : Addr} {d : Uw03.Day} {acc : List V} {o : HO} (hd : DayAt cP cC cD N H a pl pc pr d) (hf : H pf = some (.lst acc)) (hn : pf ∈ N) (h1 : pf ≠ pl) (h2 : pf ≠ pc) (h3 : pf ≠ pr) : DayAt cP cC cD N (upd H pf o) a pl pc pr d := by
  obtain ⟨dx, ho⟩ := hd.obj
  exact ⟨⟨dx, ins_upd hf ho⟩, hd.pls.stay off_pl hf h1.symm, hd.pcs.stay (off_pc (List.mem_cons_of_mem _ (List.mem_cons_of_mem _ (List.mem_cons_of_mem _ hn)))) hf h2.symm, hd.prs.stay off_pr hf h3.symm, hd.n1, hd.n2, hd.n3, occ_upd hd.occ⟩
theorem turn_next {H H1 H2 H3 H4 : Hp} {zs : List Int} {cs0 cs : List Uw03.Call} {ad pf : Addr} {i j : Nat} {d : Uw03.Day} {k : Nat} {c : Uw03.Call} {done : List Int} {pl pc pr pl' pc' pr' : Addr} (h : TurnAt cP cC cD H zs cs0 ad pf i d k (c :: cs) done pl pc pr H1)
    (e12 : Ex H1 H2) (hd : DayAt cP cC cD [pf] H3 ad pl' pc' pr' (Uw03.step d c).1) (fr : Frame H2 H3 ad pl pc pr pl' pc' pr') (e34 : Ex H3 H4) (hij : i < j) (hj : j ≤ zs.length) (hp : Parsed (zs.drop j) cs) :
    TurnAt cP cC cD H zs cs0 ad pf j (Uw03.step d c).1 (k + 1) cs (done ++ (((outOf d c).length : Int) :: outOf d c)) pl' pc' pr' (upd H4 pf (.lst (vz done ++ (.int (((vz (outOf d c)).length : Nat) : Int) :: vz (outOf d c))))) := by
  have hf2 := e12 _ _ h.fnd
  have hf3 := fr.keep _ _ hf2 h.f0 h.f1 h.f2 h.f3
  have hf4 := e34 _ _ hf3
  have g1 : pf ≠ pl' := by
    rcases fr.l1 with z | z
    · rw [z]; exact h.f1
    · exact ne_of_none hf2 z
  have g2 : pf ≠ pc' := by
    rcases fr.l2 with z | z
    · rw [z]; exact h.f2
    · exact ne_of_none hf2 z
  have g3 : pf ≠ pr' := by
    rcases fr.l3 with z | z
    · rw [z]; exact h.f3
    · exact ne_of_none hf2 z
  have ex2 := h.ex.trans e12
  refine ⟨hj, hp, good_step h.gd c, by have := h.ki; omega, ?_, ?_, (hd.mono e34).off hf4 (List.mem_singleton.mpr rfl) g1 g2 g3, h.f0, g1, g2, g3, fun b o hb => ?_, h.n0, ?_, ?_, ?_, h.nf⟩
  · rw [← h.out, List.append_assoc]
    rfl
  · rw [upd_same, vz_app]
    show some (HO.lst (_ ++ (V.int _ :: _))) = some (HO.lst (_ ++ (V.int _ :: _)))
    rw [show (vz (outOf d c)).length = (outOf d c).length from List.length_map ..]
    rfl
  · rw [upd_ne (ne_of_none hb h.nf)]
    exact e34 _ _ (fr.keep _ _ (ex2 _ _ hb) (ne_of_none hb h.n0) (ne_of_none hb h.n1) (ne_of_none hb h.n2) (ne_of_none hb h.n3))
  · rcases fr.l1 with z | z
    · rw [z]; exact h.n1
    · exact fresh_back ex2 z
  · rcases fr.l2 with z | z
    · rw [z]; exact h.n2
    · exact fresh_back ex2 z
  · rcases fr.l3 with z | z
    · rw [z]; exact h.n3
    · exact fresh_back ex2 z
def spAnswers (K : PySem.W.Frag) : Sp := fun vs H Q _ => ∃ (a : Addr) (zs : List Int), vs = [.ref a] ∧ SqL K H a (zs.map V.int) ∧ PyUw03.answers_asked zs = true ∧ zs.length ≤ 30000 ∧ ∀ H' p, H' p = some (.lst ((PyUw03.answers zs).map V.int)) → Q (.ref p) H'
abbrev nAnswers : List Str := ["calls", "day", "found", "at", "word", "begin", "some", "row"]
theorem sc_answers : FnScope nAnswers ["calls"] (defScope xAnswers) := ⟨rfl, rfl, rfl, by decide +kernel, rfl, by decide +kernel, by decide +kernel⟩
theorem sp_row_at {H : Hp} {a : Addr} {zs t : List Int} {i fin k : Nat} {row : List Nat} (hS : SqL K H a (zs.map V.int)) (hk : (k = 0 ∧ row = [] ∧ fin = i) ∨ (k = 1 ∧ zs.drop i = zi (row.length :: row) ++ t ∧ fin = i + 1 + row.length)) :
    SpP (spRowAt K) [.ref a, .int (i : Int), .int (k : Int)] H fun v H' => ∃ b p, v = .ref b ∧ H' b = some (.tup [.ref p, .int (fin : Int)]) ∧ H' p = some (.lst (vi row)) :=
  fun H1 e Q q E => ⟨a, zs, t, i, fin, k, row, rfl, ex_l e hS, hk, fun H' b p e' hb hp => q _ H' e' ⟨b, p, rfl, hb, hp⟩⟩
theorem ok_answers {f : Addr} {fd : FuncData} (F : Fun K "answers" "answers" xAnswers f fd) (T : Txt K mg cP cC cS cD) (c1 : CalC P w K mg base "Day" cD 1 ["self"] (spDayInit cP cC cD)) (c2 : Cal P w K mg base "row_at" 1 ["calls", "at", "many"] (spRowAt K)) (c3 : Cal P w K mg base "as_list" 1 ["some"] spAsList)
    (c4 : CalM P w K mg base cD "does" 8 ["self", "word", "some", "row"] (spCall cP cC cD ArgsDoes)) : FnOk P w K mg base CX0 9 f fd ["calls"] (spAnswers K) := by
  refine F.ok sc_answers (fun vs H Q E h => ?_) (fun cdv A outer s H vs Q E hr h => ?_)
  · obtain ⟨a, zs, rfl, _⟩ := h
    rfl
  · obtain ⟨a, zs, rfl, hS, hask, hlen, q⟩ := h
    have nd := sc_answers.nd
    obtain ⟨aN, hN1, hN2⟩ := T.vNumbers
    obtain ⟨aL, hL1, hL2⟩ := T.vLists
    obtain ⟨cs, hps, hans, hout⟩ := asked_is hask
    refine ⟨_, pss_cons (ps_set (i := 1) nd rfl (.inl rfl) (pe_calc0 c1 (hr.mono (by decide))))
      (pss_cons (ps_set (i := 2) nd rfl (.inl rfl) (pe_lst pa_nil))
      (pss_cons (ps_set (i := 3) nd rfl (.inl rfl) pe_int)
      (pss_cons (ps_while PassesOwn.never (pt_cmpR op_lt (pv 3) (pe_callB call_len_seq (by rfl) T.zLen PySem.boot_len (pa_cons (pv 0) pa_nil)) (nomark _))
        (pss_cons (ps_set (i := 4) nd rfl (.inl rfl) (pe_ix ix_list (pv 0) (pv 3) (fun _ _ => rfl)))
        (pss_cons (ps_set (i := 5) nd rfl (.inl rfl) (pe_op op_add (pe_op op_add (pv 3) pe_int) (pe_ix ix_tup (pe_gv hN1) (pv 4) (fun _ _ => rfl))))
        (pss_cons (ps_set (i := 6) nd rfl (.inl rfl) (pe_slice sl_list (pv 0) (po_some (pe_op op_add (pv 3) pe_int)) (po_some (pv 5))))
        (pss_cons (ps_asg (pe_cal c2 (hr.mono (by decide)) (pa_cons (pv 0) (pa_cons (pv 5) (pa_cons (pe_ix ix_tup (pe_gv hL1) (pv 4) (fun _ _ => rfl)) pa_nil)))) (pg_tup rfl (pgs_cons (pg_name (i := 7) nd rfl (Or.inl rfl)) (pgs_cons (pg_name (i := 3) nd rfl (Or.inl rfl)) pgs_nil))))
        (pss_one (ps_expr (pe_bm PySem.F.plainAttrs_list PySem.F.slot_list_extend PySem.F.type_list_extend mt_extend (pv 2) (pa_cons (pe_cal c3 (hr.mono (by decide)) (pa_cons (pe_calm (pv 1) T.clD c4 hr (pa_cons (pv 4) (pa_cons (pv 6) (pa_cons (pv 7) pa_nil)))) pa_nil)) pa_nil)))))))))
      (pss_one (ps_ret (pv 2)))))), ?_⟩
    refine q_asgP ep_day fun v H1 e1 ⟨ad, pl, pc, pr, ev, n0, n1, n2, n3, hd1⟩ => ?_
    subst ev
    refine q_asgL (el_lst ea_nil (by decide)) fun pf H2 npf e2 hf => ?_
    refine q_asg ev_c fun H3 e3 => ?_
    have nf : H pf = none := fresh_back e1 npf
    have hd3 := hd1.mono (e2.trans e3)
    have day3 : DayAt cP cC cD [pf] H3 ad pl pc pr Uw03.init := by
      obtain ⟨pv, hp1, hp2, _⟩ := hd3.pcs
      have hp3 : pv = [] := List.eq_nil_of_length_eq_zero hp2
      exact ⟨hd3.obj, hd3.pls, rep_nil (by rw [hp1, hp3]), hd3.prs, hd3.n1, hd3.n2, hd3.n3, fun b hb => by rw [List.mem_singleton.mp hb]; exact ⟨_, e3 _ _ hf⟩⟩
    obtain ⟨dx1, ho1⟩ := hd1.obj
    obtain ⟨_, hl1, _⟩ := hd1.pls
    obtain ⟨_, hc1, _⟩ := hd1.pcs
    obtain ⟨_, hr1, _⟩ := hd1.prs
    have t0 : TurnAt cP cC cD H zs cs ad pf 0 Uw03.init 0 cs [] pl pc pr H3 :=
      ⟨Nat.zero_le _, hps, good_init 0, Nat.le_refl _, rfl, e3 _ _ hf, day3, (ne_of_none ho1 npf).symm, (ne_of_none hl1 npf).symm, (ne_of_none hc1 npf).symm, (ne_of_none hr1 npf).symm, (e1.trans e2).trans e3, n0, n1, n2, n3, nf⟩
    refine q_while (fun m σ' H' => ∃ (i : Nat) (d : Uw03.Day) (k : Nat) (cs' : List Uw03.Call) (done : List Int) (pl pc pr : Addr) (y4 y5 y6 y7 : Option V), σ' = [some (.ref a), some (.ref ad), some (.ref pf), some (.int (i : Int)), y4, y5, y6, y7] ∧ m = zs.length - i ∧ TurnAt cP cC cD H zs cs ad pf i d k cs' done pl pc pr H') (zs.length - 0)
      ⟨0, _, 0, cs, [], pl, pc, pr, none, none, none, none, rfl, rfl, t0⟩ ?_
    rintro m σ' H4 ⟨i, d, k, cs', done, pl, pc, pr, y4, y5, y6, y7, rfl, rfl, tn⟩
    have hS4 := ex_l tn.ex hS
    refine ⟨decide (i < zs.length), et_is (et_test (ev_op (ev_var rfl) (ev_len (ev_var rfl) hS4) rv_I0)) (by rw [List.length_map, Bool.eq_iff_iff]; simp), fun hb H5 e5 => ?_, fun hb H5 e5 => ?_⟩
    · have hi := of_decide_eq_true hb
      obtain ⟨p, xs, row, c, t, cs2, hc, hp2, hdr, rfl⟩ := parsed_cons tn.ps fun z => by
        have := congrArg List.length z
        rw [List.length_drop] at this
        simp at this
        omega
      have hdr1 : zs.drop i = (p : Int) :: (zi xs ++ (zi (rowIn p row) ++ t)) := by rw [hdr, zi_app, zi_app, List.append_assoc, List.append_assoc]; rfl
      obtain ⟨w1, _, w3⟩ := drop_cell hdr1
      obtain ⟨v1, v2⟩ := drop_mid w3 (by omega)
      obtain ⟨u1, u2⟩ := drop_mid v1 v2
      obtain ⟨kk, hk1, hk2⟩ := call_lists hc
      have hij : i < i + 1 + xs.length + (rowIn p row).length := by omega
      refine ⟨fun σ2 H2 => ∃ (d : Uw03.Day) (k : Nat) (cs' : List Uw03.Call) (done : List Int) (pl pc pr : Addr) (y4 y5 y6 y7 : Option V), σ2 = [some (.ref a), some (.ref ad), some (.ref pf), some (.int ((i + 1 + xs.length + (rowIn p row).length : Nat) : Int)), y4, y5, y6, y7] ∧ TurnAt cP cC cD H zs cs ad pf (i + 1 + xs.length + (rowIn p row).length) d k cs' done pl pc pr H2,
        fun σ2 H2 ⟨d, k, cs', done, pl, pc, pr, y4, y5, y6, y7, hσ, ht⟩ => ⟨zs.length - (i + 1 + xs.length + (rowIn p row).length), by omega, _, d, k, cs', done, pl, pc, pr, y4, y5, y6, y7, hσ, rfl, ht⟩, ?_⟩
      have hS5 := ex_l e5 hS4
      refine q_asg (ev_op (ev_var rfl) (ev_var rfl) (rv_ixL hS5 (atI_nat (by rw [List.getElem?_map, w1]; rfl)))) fun H6 e6 => ?_
      refine q_asg (v := .int ((i + 1 + xs.length : Nat) : Int)) (ev_is (ev_op (ev_op (ev_var rfl) ev_c rv_I0) (ev_op ev_c (ev_var rfl) (rv_ixT (hN2 _) (atI_nat (call_nums hc)))) rv_I0) (congrArg V.int (by show ((i : Int) + 1 + (xs.length : Int) = ((i + 1 + xs.length : Nat) : Int)); omega))) fun H7 e7 => ?_
      have e57 := e6.trans e7
      refine q_asgL (xs := vi xs) (el_isL (el_sl (xs := zs.map V.int) (lo := some ((i + 1 : Nat) : Int)) (hi := some ((i + 1 + xs.length : Nat) : Int)) (ev_var rfl) (eo_some (ev_is (ev_op (ev_var rfl) ev_c rv_I0) (congrArg V.int (by show ((i : Int) + 1 = ((i + 1 : Nat) : Int)); omega)))) (eo_some (ev_var rfl)) (ex_l e57 hS5)) (cut_mid w3 (by omega))) fun sm H8 _ e8 hsm => ?_
      have e58 := e57.trans e8
      refine (ep_call (ea_cons (ev_var rfl) (ea_cons (ev_var rfl) (ea_cons (ev_op ev_c (ev_var rfl) (rv_ixT (hL2 _) (atI_nat hk1))) ea_nil))) (sp_row_at (t := t) (fin := i + 1 + xs.length + (rowIn p row).length) (row := row) (ex_l e58 hS5) ?_)) H8 (Ex.refl _) _ fun v H9 e9 ⟨b, rw, ev, hbt, hrw⟩ => ?_
      · rcases hk2 with ⟨z1, z2, z3⟩ | ⟨z1, z2⟩
        · exact .inl ⟨z1, z2, by rw [z3]; rfl⟩
        · refine .inr ⟨z1, ?_, by rw [z2, List.length_cons]; omega⟩
          rw [v1, z2]
      subst ev
      refine g_pair hbt ?_
      have e59 := e58.trans e9
      have hd9 := tn.day.mono (e5.trans e59)
      have hf9 := (e5.trans e59) _ _ tn.fnd
      obtain ⟨dx9, ho9⟩ := hd9.obj
      have hk30 : k ≤ 40000 := by have := tn.ki; omega
      have tot : done.length + (1 + (outOf d c).length) ≤ 1000040 := by
        have z := congrArg List.length tn.out
        rw [List.length_append] at z
        have y : (runOut d (c :: cs2)).length = (outOf d c).length + 1 + (runOut (Uw03.step d c).1 cs2).length := by
          show (((outOf d c).length : Int) :: outOf d c ++ runOut (Uw03.step d c).1 cs2).length = _
          rw [List.length_append, List.length_cons]
        omega
      refine ⟨_, rfl, .inl ⟨rfl, _, sq_of hf9⟩, _, rfl, ad, dx9, _, rfl, ho9, f3_none (by decide +kernel) (by decide +kernel) (by decide +kernel), _, rfl, _, rfl, _, rfl, ?_⟩
      refine ⟨ad, pl, pc, pr, [pf], [.int (p : Int), .ref sm, .ref rw], d, k, c, rfl, hd9, tn.gd, hk30, ⟨p, xs, row, sm, rw, rfl, e9 _ _ hsm, hrw, hc⟩, fun po H10 pl' pc' pr' hpo ho10 hd10 fr => ?_⟩
      refine ⟨po, vz (outOf d c), rfl, ho10, by rw [show (vz (outOf d c)).length = (outOf d c).length from List.length_map ..]; omega, fun pq H11 hpq e11 hq => ?_⟩
      have hf10 := fr.keep _ _ hf9 tn.f0 tn.f1 tn.f2 tn.f3
      refine ⟨pf, pq, vz done, _, rfl, rfl, e11 _ _ hf10, hq, ?_, ?_⟩
      · rw [List.length_cons, show (vz (outOf d c)).length = (outOf d c).length from List.length_map .., show (vz done).length = done.length from List.length_map ..]
        exact Nat.le_trans (m := 1000040) (by omega) (by decide)
      · exact ⟨_, _, _, _, pl', pc', pr', _, _, _, _, rfl, turn_next tn (e5.trans e59) hd10 fr e11 hij u2 (by rw [u1]; exact hp2)⟩
    · have hi := of_decide_eq_false hb
      have hcs : cs' = [] := parsed_nil tn.ps (List.drop_eq_nil_of_le (by omega))
      have hdone : done = PyUw03.answers zs := by
        have z := tn.out
        rw [hcs] at z
        have y : runOut d [] = [] := rfl
        rw [y, List.append_nil] at z
        rw [hans, z]
      exact s_ret (ev_var rfl) fun H6 e6 => q H6 pf (by rw [← hdone]; exact e6 _ _ (e5 _ _ tn.fnd))
end
end Reh
end RdAnswers
section RdEnd
/-! The end: what the top has written. -/
namespace Reh
open PySem PySem.Spec PyProof.Rows L2
open PySem.W (Codec)
theorem all_mk {P : Program} {w : World} {K : PySem.W.Frag} {h : Heap} {mg : Str → Option Value} {fa cP cC cS cD f1 f2 f3 f4 f5 f6 f7 f8 f9 f10 f11 f12 f13 f14 f15 f16 f17 f18 f19 f20 f21 f22 f23 f24 f25 f26 f27 f28 fN fL : Addr} (X : K.In h) (G : h.Ns mainGlobals mg) (hfa : mg "answers" = some (.ref fa))
    {od1 an1 od2 an2 od3 an3 od4 an4 od5 an5 od6 an6 od7 an7 od8 an8 od9 an9 od10 an10 od11 an11 od12 an12 od13 an13 od14 an14 od15 an15 od16 an16 od17 an17 od18 an18 od19 an19 od20 an20 od21 an21 od22 an22 od23 an23 od24 an24 od25 an25 od26 an26 od27 an27 od28 an28 odN odL : Option Addr} {sl1 sl2 sl3 sl4 sl5 sl6 sl7 sl8 sl9 sl10 sl11 sl12 sl13 sl14 sl15 sl16 sl17 sl18 sl19 sl20 sl21 sl22 sl23 sl24 sl25 sl26 sl27 sl28 slN slL : Array (Option Value)} {itsN itsL : Array Value} {nnN nnL : Nat} {t0 t1 t2 t3 t4 t5 t6 t7 t8 t9 t10 t11 t12 : Tok}
    {oc1 kV1 dc1 pm1 cd1 ct1 oc2 kV2 dc2 pm2 cd2 ct2 oc3 kV3 dc3 pm3 cd3 ct3 oc4 kV4 dc4 pm4 cd4 ct4 oc5 kV5 dc5 pm5 cd5 ct5 oc6 kV6 dc6 pm6 cd6 ct6 oc7 kV7 dc7 pm7 cd7 ct7 oc8 kV8 dc8 pm8 cd8 ct8 oc9 kV9 dc9 pm9 cd9 ct9 oc10 kV10 dc10 pm10 cd10 ct10 oc11 kV11 dc11 pm11 cd11 ct11 oc12 kV12 dc12 pm12 cd12 ct12 oc13 kV13 dc13 pm13 cd13 ct13 oc14 kV14 dc14 pm14 cd14 ct14 oc15 kV15 dc15 pm15 cd15 ct15 oc16 kV16 dc16 pm16 cd16 ct16 oc17 kV17 dc17 pm17 cd17 ct17 oc18 kV18 dc18 pm18 cd18 ct18 oc19 kV19 dc19 pm19 cd19 ct19 oc20 kV20 dc20 pm20 cd20 ct20 oc21 kV21 dc21 pm21 cd21 ct21 oc22 kV22 dc22 pm22 cd22 ct22 oc23 kV23 dc23 pm23 cd23 ct23 oc24 kV24 dc24 pm24 cd24 ct24 oc25 kV25 dc25 pm25 cd25 ct25 oc26 kV26 dc26 pm26 cd26 ct26 oc27 kV27 dc27 pm27 cd27 ct27 oc28 kV28 dc28 pm28 cd28 ct28 : Value}
    (aP : PySem.W.nsIn K mainGlobals "Player" = some (some (.ref cP)))
    (aC : PySem.W.nsIn K mainGlobals "Piece" = some (some (.ref cC)))
    (aS : PySem.W.nsIn K mainGlobals "Stay" = some (some (.ref cS)))
    (aD : PySem.W.nsIn K mainGlobals "Day" = some (some (.ref cD)))
    (a1 : PySem.W.findIn K (.ref cP) "__init__" = some (some (.ref f1)))
    (i1 : PySem.W.isFn K (.ref f1) = true)
    (l1 : K.lookup f1 = some ⟨oc1, od1, .func (PySem.W.fnOf "__init__" "Player.__init__" (defArgs xPlayer) (defBody xPlayer) (defScope xPlayer) .none kV1 dc1 pm1 an1 cd1 ct1), sl1⟩)
    (c1 : PySem.W.codeIn K cd1 "Player.__init__" = true)
    (k1 : PySem.W.keepIn K (.ref f1) = true)
    (a2 : PySem.W.findIn K (.ref cC) "__init__" = some (some (.ref f2)))
    (i2 : PySem.W.isFn K (.ref f2) = true)
    (l2 : K.lookup f2 = some ⟨oc2, od2, .func (PySem.W.fnOf "__init__" "Piece.__init__" (defArgs xPiece) (defBody xPiece) (defScope xPiece) .none kV2 dc2 pm2 an2 cd2 ct2), sl2⟩)
    (c2 : PySem.W.codeIn K cd2 "Piece.__init__" = true)
    (k2 : PySem.W.keepIn K (.ref f2) = true)
    (a3 : PySem.W.findIn K (.ref cS) "__init__" = some (some (.ref f3)))
    (i3 : PySem.W.isFn K (.ref f3) = true)
    (l3 : K.lookup f3 = some ⟨oc3, od3, .func (PySem.W.fnOf "__init__" "Stay.__init__" (defArgs xStay) (defBody xStay) (defScope xStay) .none kV3 dc3 pm3 an3 cd3 ct3), sl3⟩)
    (c3 : PySem.W.codeIn K cd3 "Stay.__init__" = true)
    (k3 : PySem.W.keepIn K (.ref f3) = true)
    (a4 : PySem.W.findIn K (.ref cS) "there" = some (some (.ref f4)))
    (i4 : PySem.W.isFn K (.ref f4) = true)
    (l4 : K.lookup f4 = some ⟨oc4, od4, .func (PySem.W.fnOf "there" "Stay.there" (defArgs xThere) (defBody xThere) (defScope xThere) .none kV4 dc4 pm4 an4 cd4 ct4), sl4⟩)
    (c4 : PySem.W.codeIn K cd4 "Stay.there" = true)
    (k4 : PySem.W.keepIn K (.ref f4) = true)
    (a5 : PySem.W.findIn K (.ref cS) "numbers" = some (some (.ref f5)))
    (i5 : PySem.W.isFn K (.ref f5) = true)
    (l5 : K.lookup f5 = some ⟨oc5, od5, .func (PySem.W.fnOf "numbers" "Stay.numbers" (defArgs xNumbers) (defBody xNumbers) (defScope xNumbers) .none kV5 dc5 pm5 an5 cd5 ct5), sl5⟩)
    (c5 : PySem.W.codeIn K cd5 "Stay.numbers" = true)
    (k5 : PySem.W.keepIn K (.ref f5) = true)
    (a6 : PySem.W.nsIn K mainGlobals "stay_in" = some (some (.ref f6)))
    (l6 : K.lookup f6 = some ⟨oc6, od6, .func (PySem.W.fnOf "stay_in" "stay_in" (defArgs xStayIn) (defBody xStayIn) (defScope xStayIn) .none kV6 dc6 pm6 an6 cd6 ct6), sl6⟩)
    (c6 : PySem.W.codeIn K cd6 "stay_in" = true)
    (k6 : PySem.W.keepIn K (.ref f6) = true)
    (a7 : PySem.W.nsIn K mainGlobals "stays_in" = some (some (.ref f7)))
    (l7 : K.lookup f7 = some ⟨oc7, od7, .func (PySem.W.fnOf "stays_in" "stays_in" (defArgs xStaysIn) (defBody xStaysIn) (defScope xStaysIn) .none kV7 dc7 pm7 an7 cd7 ct7), sl7⟩)
    (c7 : PySem.W.codeIn K cd7 "stays_in" = true)
    (k7 : PySem.W.keepIn K (.ref f7) = true)
    (a8 : PySem.W.nsIn K mainGlobals "cost_of" = some (some (.ref f8)))
    (l8 : K.lookup f8 = some ⟨oc8, od8, .func (PySem.W.fnOf "cost_of" "cost_of" (defArgs xCostOf) (defBody xCostOf) (defScope xCostOf) .none kV8 dc8 pm8 an8 cd8 ct8), sl8⟩)
    (c8 : PySem.W.codeIn K cd8 "cost_of" = true)
    (k8 : PySem.W.keepIn K (.ref f8) = true)
    (a9 : PySem.W.nsIn K mainGlobals "pair_behind" = some (some (.ref f9)))
    (l9 : K.lookup f9 = some ⟨oc9, od9, .func (PySem.W.fnOf "pair_behind" "pair_behind" (defArgs xPairBehind) (defBody xPairBehind) (defScope xPairBehind) .none kV9 dc9 pm9 an9 cd9 ct9), sl9⟩)
    (c9 : PySem.W.codeIn K cd9 "pair_behind" = true)
    (k9 : PySem.W.keepIn K (.ref f9) = true)
    (a10 : PySem.W.nsIn K mainGlobals "stay_wrong" = some (some (.ref f10)))
    (l10 : K.lookup f10 = some ⟨oc10, od10, .func (PySem.W.fnOf "stay_wrong" "stay_wrong" (defArgs xStayWrong) (defBody xStayWrong) (defScope xStayWrong) .none kV10 dc10 pm10 an10 cd10 ct10), sl10⟩)
    (c10 : PySem.W.codeIn K cd10 "stay_wrong" = true)
    (k10 : PySem.W.keepIn K (.ref f10) = true)
    (a11 : PySem.W.nsIn K mainGlobals "wrong_with" = some (some (.ref f11)))
    (l11 : K.lookup f11 = some ⟨oc11, od11, .func (PySem.W.fnOf "wrong_with" "wrong_with" (defArgs xWrongWith) (defBody xWrongWith) (defScope xWrongWith) .none kV11 dc11 pm11 an11 cd11 ct11), sl11⟩)
    (c11 : PySem.W.codeIn K cd11 "wrong_with" = true)
    (k11 : PySem.W.keepIn K (.ref f11) = true)
    (a12 : PySem.W.nsIn K mainGlobals "all_orders" = some (some (.ref f12)))
    (l12 : K.lookup f12 = some ⟨oc12, od12, .func (PySem.W.fnOf "all_orders" "all_orders" (defArgs xAllOrders) (defBody xAllOrders) (defScope xAllOrders) .none kV12 dc12 pm12 an12 cd12 ct12), sl12⟩)
    (c12 : PySem.W.codeIn K cd12 "all_orders" = true)
    (k12 : PySem.W.keepIn K (.ref f12) = true)
    (a13 : PySem.W.nsIn K mainGlobals "as_list" = some (some (.ref f13)))
    (l13 : K.lookup f13 = some ⟨oc13, od13, .func (PySem.W.fnOf "as_list" "as_list" (defArgs xAsList) (defBody xAsList) (defScope xAsList) .none kV13 dc13 pm13 an13 cd13 ct13), sl13⟩)
    (c13 : PySem.W.codeIn K cd13 "as_list" = true)
    (k13 : PySem.W.keepIn K (.ref f13) = true)
    (a14 : PySem.W.nsIn K mainGlobals "stays_told" = some (some (.ref f14)))
    (l14 : K.lookup f14 = some ⟨oc14, od14, .func (PySem.W.fnOf "stays_told" "stays_told" (defArgs xStaysTold) (defBody xStaysTold) (defScope xStaysTold) .none kV14 dc14 pm14 an14 cd14 ct14), sl14⟩)
    (c14 : PySem.W.codeIn K cd14 "stays_told" = true)
    (k14 : PySem.W.keepIn K (.ref f14) = true)
    (a15 : PySem.W.findIn K (.ref cD) "__init__" = some (some (.ref f15)))
    (i15 : PySem.W.isFn K (.ref f15) = true)
    (l15 : K.lookup f15 = some ⟨oc15, od15, .func (PySem.W.fnOf "__init__" "Day.__init__" (defArgs (xDay 0)) (defBody (xDay 0)) (defScope (xDay 0)) .none kV15 dc15 pm15 an15 cd15 ct15), sl15⟩)
    (c15 : PySem.W.codeIn K cd15 "Day.__init__" = true)
    (k15 : PySem.W.keepIn K (.ref f15) = true)
    (a16 : PySem.W.findIn K (.ref cD) "begin" = some (some (.ref f16)))
    (i16 : PySem.W.isFn K (.ref f16) = true)
    (l16 : K.lookup f16 = some ⟨oc16, od16, .func (PySem.W.fnOf "begin" "Day.begin" (defArgs (xDay 1)) (defBody (xDay 1)) (defScope (xDay 1)) .none kV16 dc16 pm16 an16 cd16 ct16), sl16⟩)
    (c16 : PySem.W.codeIn K cd16 "Day.begin" = true)
    (k16 : PySem.W.keepIn K (.ref f16) = true)
    (a17 : PySem.W.findIn K (.ref cD) "add_player" = some (some (.ref f17)))
    (i17 : PySem.W.isFn K (.ref f17) = true)
    (l17 : K.lookup f17 = some ⟨oc17, od17, .func (PySem.W.fnOf "add_player" "Day.add_player" (defArgs (xDay 2)) (defBody (xDay 2)) (defScope (xDay 2)) .none kV17 dc17 pm17 an17 cd17 ct17), sl17⟩)
    (c17 : PySem.W.codeIn K cd17 "Day.add_player" = true)
    (k17 : PySem.W.keepIn K (.ref f17) = true)
    (a18 : PySem.W.findIn K (.ref cD) "are_players" = some (some (.ref f18)))
    (i18 : PySem.W.isFn K (.ref f18) = true)
    (l18 : K.lookup f18 = some ⟨oc18, od18, .func (PySem.W.fnOf "are_players" "Day.are_players" (defArgs (xDay 3)) (defBody (xDay 3)) (defScope (xDay 3)) .none kV18 dc18 pm18 an18 cd18 ct18), sl18⟩)
    (c18 : PySem.W.codeIn K cd18 "Day.are_players" = true)
    (k18 : PySem.W.keepIn K (.ref f18) = true)
    (a19 : PySem.W.findIn K (.ref cD) "add_piece" = some (some (.ref f19)))
    (i19 : PySem.W.isFn K (.ref f19) = true)
    (l19 : K.lookup f19 = some ⟨oc19, od19, .func (PySem.W.fnOf "add_piece" "Day.add_piece" (defArgs (xDay 4)) (defBody (xDay 4)) (defScope (xDay 4)) .none kV19 dc19 pm19 an19 cd19 ct19), sl19⟩)
    (c19 : PySem.W.codeIn K cd19 "Day.add_piece" = true)
    (k19 : PySem.W.keepIn K (.ref f19) = true)
    (a20 : PySem.W.findIn K (.ref cD) "add_pair" = some (some (.ref f20)))
    (i20 : PySem.W.isFn K (.ref f20) = true)
    (l20 : K.lookup f20 = some ⟨oc20, od20, .func (PySem.W.fnOf "add_pair" "Day.add_pair" (defArgs (xDay 5)) (defBody (xDay 5)) (defScope (xDay 5)) .none kV20 dc20 pm20 an20 cd20 ct20), sl20⟩)
    (c20 : PySem.W.codeIn K cd20 "Day.add_pair" = true)
    (k20 : PySem.W.keepIn K (.ref f20) = true)
    (a21 : PySem.W.findIn K (.ref cD) "stays" = some (some (.ref f21)))
    (i21 : PySem.W.isFn K (.ref f21) = true)
    (l21 : K.lookup f21 = some ⟨oc21, od21, .func (PySem.W.fnOf "stays" "Day.stays" (defArgs (xDay 6)) (defBody (xDay 6)) (defScope (xDay 6)) .none kV21 dc21 pm21 an21 cd21 ct21), sl21⟩)
    (c21 : PySem.W.codeIn K cd21 "Day.stays" = true)
    (k21 : PySem.W.keepIn K (.ref f21) = true)
    (a22 : PySem.W.findIn K (.ref cD) "right_orders" = some (some (.ref f22)))
    (i22 : PySem.W.isFn K (.ref f22) = true)
    (l22 : K.lookup f22 = some ⟨oc22, od22, .func (PySem.W.fnOf "right_orders" "Day.right_orders" (defArgs (xDay 7)) (defBody (xDay 7)) (defScope (xDay 7)) .none kV22 dc22 pm22 an22 cd22 ct22), sl22⟩)
    (c22 : PySem.W.codeIn K cd22 "Day.right_orders" = true)
    (k22 : PySem.W.keepIn K (.ref f22) = true)
    (a23 : PySem.W.findIn K (.ref cD) "best" = some (some (.ref f23)))
    (i23 : PySem.W.isFn K (.ref f23) = true)
    (l23 : K.lookup f23 = some ⟨oc23, od23, .func (PySem.W.fnOf "best" "Day.best" (defArgs (xDay 8)) (defBody (xDay 8)) (defScope (xDay 8)) .none kV23 dc23 pm23 an23 cd23 ct23), sl23⟩)
    (c23 : PySem.W.codeIn K cd23 "Day.best" = true)
    (k23 : PySem.W.keepIn K (.ref f23) = true)
    (a24 : PySem.W.findIn K (.ref cD) "check" = some (some (.ref f24)))
    (i24 : PySem.W.isFn K (.ref f24) = true)
    (l24 : K.lookup f24 = some ⟨oc24, od24, .func (PySem.W.fnOf "check" "Day.check" (defArgs (xDay 9)) (defBody (xDay 9)) (defScope (xDay 9)) .none kV24 dc24 pm24 an24 cd24 ct24), sl24⟩)
    (c24 : PySem.W.codeIn K cd24 "Day.check" = true)
    (k24 : PySem.W.keepIn K (.ref f24) = true)
    (a25 : PySem.W.findIn K (.ref cD) "work" = some (some (.ref f25)))
    (i25 : PySem.W.isFn K (.ref f25) = true)
    (l25 : K.lookup f25 = some ⟨oc25, od25, .func (PySem.W.fnOf "work" "Day.work" (defArgs (xDay 10)) (defBody (xDay 10)) (defScope (xDay 10)) .none kV25 dc25 pm25 an25 cd25 ct25), sl25⟩)
    (c25 : PySem.W.codeIn K cd25 "Day.work" = true)
    (k25 : PySem.W.keepIn K (.ref f25) = true)
    (a26 : PySem.W.findIn K (.ref cD) "does" = some (some (.ref f26)))
    (i26 : PySem.W.isFn K (.ref f26) = true)
    (l26 : K.lookup f26 = some ⟨oc26, od26, .func (PySem.W.fnOf "does" "Day.does" (defArgs (xDay 11)) (defBody (xDay 11)) (defScope (xDay 11)) .none kV26 dc26 pm26 an26 cd26 ct26), sl26⟩)
    (c26 : PySem.W.codeIn K cd26 "Day.does" = true)
    (k26 : PySem.W.keepIn K (.ref f26) = true)
    (a27 : PySem.W.nsIn K mainGlobals "row_at" = some (some (.ref f27)))
    (l27 : K.lookup f27 = some ⟨oc27, od27, .func (PySem.W.fnOf "row_at" "row_at" (defArgs xRowAt) (defBody xRowAt) (defScope xRowAt) .none kV27 dc27 pm27 an27 cd27 ct27), sl27⟩)
    (c27 : PySem.W.codeIn K cd27 "row_at" = true)
    (k27 : PySem.W.keepIn K (.ref f27) = true)
    (a28 : PySem.W.nsIn K mainGlobals "answers" = some (some (.ref f28)))
    (l28 : K.lookup f28 = some ⟨oc28, od28, .func (PySem.W.fnOf "answers" "answers" (defArgs xAnswers) (defBody xAnswers) (defScope xAnswers) .none kV28 dc28 pm28 an28 cd28 ct28), sl28⟩)
    (c28 : PySem.W.codeIn K cd28 "answers" = true)
    (k28 : PySem.W.keepIn K (.ref f28) = true)
    (pgP : PySem.W.plainGet K cP Str.empty = true)
    (hdP : PySem.W.hasDictIn K cP = true)
    (poP : PySem.W.plainOver K cP = true)
    (saP : PySem.W.findIn K (.ref cP) "__setattr__" = some (some (.builtin "object.__setattr__")))
    (mkP : PySem.W.makesIn K cP = true)
    (kcP : PySem.W.keepIn K (.ref cP) = true)
    (nP0 : PySem.W.findIn K (.ref cP) "cost" = some none)
    (nP1 : PySem.W.findIn K (.ref cP) "since" = some none)
    (nP2 : PySem.W.findIn K (.ref cP) "till" = some none)
    (pgC : PySem.W.plainGet K cC Str.empty = true)
    (hdC : PySem.W.hasDictIn K cC = true)
    (poC : PySem.W.plainOver K cC = true)
    (saC : PySem.W.findIn K (.ref cC) "__setattr__" = some (some (.builtin "object.__setattr__")))
    (mkC : PySem.W.makesIn K cC = true)
    (kcC : PySem.W.keepIn K (.ref cC) = true)
    (nC0 : PySem.W.findIn K (.ref cC) "minutes" = some none)
    (nC1 : PySem.W.findIn K (.ref cC) "players" = some none)
    (pgS : PySem.W.plainGet K cS Str.empty = true)
    (hdS : PySem.W.hasDictIn K cS = true)
    (poS : PySem.W.plainOver K cS = true)
    (saS : PySem.W.findIn K (.ref cS) "__setattr__" = some (some (.builtin "object.__setattr__")))
    (mkS : PySem.W.makesIn K cS = true)
    (kcS : PySem.W.keepIn K (.ref cS) = true)
    (nS0 : PySem.W.findIn K (.ref cS) "comes" = some none)
    (nS1 : PySem.W.findIn K (.ref cS) "goes" = some none)
    (nS2 : PySem.W.findIn K (.ref cS) "busy" = some none)
    (pgD : PySem.W.plainGet K cD Str.empty = true)
    (hdD : PySem.W.hasDictIn K cD = true)
    (poD : PySem.W.plainOver K cD = true)
    (saD : PySem.W.findIn K (.ref cD) "__setattr__" = some (some (.builtin "object.__setattr__")))
    (mkD : PySem.W.makesIn K cD = true)
    (kcD : PySem.W.keepIn K (.ref cD) = true)
    (nD0 : PySem.W.findIn K (.ref cD) "players" = some none)
    (nD1 : PySem.W.findIn K (.ref cD) "pieces" = some none)
    (nD2 : PySem.W.findIn K (.ref cD) "pairs" = some none)
    (z_len : PySem.W.nsIn K mainGlobals "len" = some none)
    (z_sum : PySem.W.nsIn K mainGlobals "sum" = some none)
    (z_zip : PySem.W.nsIn K mainGlobals "zip" = some none)
    (z_range : PySem.W.nsIn K mainGlobals "range" = some none)
    (z_dict : PySem.W.nsIn K mainGlobals "dict" = some none)
    (z_enumerate : PySem.W.nsIn K mainGlobals "enumerate" = some none)
    (z_any : PySem.W.nsIn K mainGlobals "any" = some none)
    (z_all : PySem.W.nsIn K mainGlobals "all" = some none)
    (z_min : PySem.W.nsIn K mainGlobals "min" = some none)
    (z_sorted : PySem.W.nsIn K mainGlobals "sorted" = some none)
    (z_list : PySem.W.nsIn K mainGlobals "list" = some none)
    (v0 : PySem.W.nsIn K mainGlobals "BEHIND" = some (some (.int 1 t0)))
    (v1 : PySem.W.nsIn K mainGlobals "TOO_EARLY" = some (some (.int 2 t1)))
    (v2 : PySem.W.nsIn K mainGlobals "TOO_LATE" = some (some (.int 3 t2)))
    (v3 : PySem.W.nsIn K mainGlobals "BAD" = some (some (.int (-1) t3)))
    (v4 : PySem.W.nsIn K mainGlobals "NO_PIECE" = some (some (.int (-2) t4)))
    (v5 : PySem.W.nsIn K mainGlobals "TOLD_ALREADY" = some (some (.int (-3) t5)))
    (v6 : PySem.W.nsIn K mainGlobals "PIECES_ALREADY" = some (some (.int (-4) t6)))
    (v7 : PySem.W.nsIn K mainGlobals "NO_ROOM" = some (some (.int (-5) t7)))
    (v8 : PySem.W.nsIn K mainGlobals "NONE_RIGHT" = some (some (.int (-6) t8)))
    (v9 : PySem.W.nsIn K mainGlobals "MOST" = some (some (.int 6 t9)))
    (v10 : PySem.W.nsIn K mainGlobals "MOST_COST" = some (some (.int 1000 t10)))
    (v11 : PySem.W.nsIn K mainGlobals "LAST_MINUTE" = some (some (.int 3600 t11)))
    (v12 : PySem.W.nsIn K mainGlobals "MOST_MINUTES" = some (some (.int 600 t12)))
    (aN : PySem.W.nsIn K mainGlobals "NUMBERS" = some (some (.ref fN)))
    (lN : K.lookup fN = some ⟨.type "tuple", odN, .seq itsN nnN, slN⟩)
    (szN : itsN.size ≤ sizeLine)
    (vvN : Vals [.int 0, .int 3, .int 1, .int 2, .int 0, .int 0, .int 0] itsN.toList)
    (aL : PySem.W.nsIn K mainGlobals "LISTS" = some (some (.ref fL)))
    (lL : K.lookup fL = some ⟨.type "tuple", odL, .seq itsL nnL, slL⟩)
    (szL : itsL.size ≤ sizeLine)
    (vvL : Vals [.int 0, .int 0, .int 1, .int 0, .int 0, .int 1, .int 0] itsL.toList)
    : ∃ fd : FuncData, (∀ (s : Shared) (us : List Value), us.length = (["calls"] : List Str).length → BindsTo s fd ⟨us, []⟩ ((["calls"] : List Str).zip us)) ∧ ∀ base : Heap, K.In base → base.Ns mainGlobals mg → FnOk P w K mg base CX0 9 fa fd ["calls"] (spAnswers K) := by
  have e := hfa.symm.trans (PySem.W.mg_of X G a28)
  cases e
  have T : Txt K mg cP cC cS cD :=
    { clP := ⟨pgP, hdP, poP, saP⟩, pCost := nP0, pSince := nP1, pTill := nP2, clC := ⟨pgC, hdC, poC, saC⟩, cMin := nC0, cPl := nC1, clS := ⟨pgS, hdS, poS, saS⟩, sCo := nS0, sGo := nS1, sBu := nS2, clD := ⟨pgD, hdD, poD, saD⟩, dPl := nD0, dPc := nD1, dPr := nD2
      zLen := PySem.W.mg_none_of X G z_len, zSum := PySem.W.mg_none_of X G z_sum, zZip := PySem.W.mg_none_of X G z_zip, zRange := PySem.W.mg_none_of X G z_range, zDict := PySem.W.mg_none_of X G z_dict, zEnum := PySem.W.mg_none_of X G z_enumerate, zAny := PySem.W.mg_none_of X G z_any, zAll := PySem.W.mg_none_of X G z_all, zMin := PySem.W.mg_none_of X G z_min, zSorted := PySem.W.mg_none_of X G z_sorted, zList := PySem.W.mg_none_of X G z_list
      vBehind := ⟨_, PySem.W.mg_of X G v0, _, rfl⟩, vEarly := ⟨_, PySem.W.mg_of X G v1, _, rfl⟩, vLate := ⟨_, PySem.W.mg_of X G v2, _, rfl⟩, vBad := ⟨_, PySem.W.mg_of X G v3, _, rfl⟩, vNoPiece := ⟨_, PySem.W.mg_of X G v4, _, rfl⟩, vTold := ⟨_, PySem.W.mg_of X G v5, _, rfl⟩, vPieces := ⟨_, PySem.W.mg_of X G v6, _, rfl⟩, vNoRoom := ⟨_, PySem.W.mg_of X G v7, _, rfl⟩, vNone := ⟨_, PySem.W.mg_of X G v8, _, rfl⟩, vMost := ⟨_, PySem.W.mg_of X G v9, _, rfl⟩, vCost := ⟨_, PySem.W.mg_of X G v10, _, rfl⟩, vLast := ⟨_, PySem.W.mg_of X G v11, _, rfl⟩, vMinutes := ⟨_, PySem.W.mg_of X G v12, _, rfl⟩
      vNumbers := ⟨fN, ⟨_, PySem.W.mg_of X G aN, rfl⟩, fun _ => .inr ⟨_, itsN, nnN, lN, rfl, rfl, szN, vvN⟩⟩, vLists := ⟨fL, ⟨_, PySem.W.mg_of X G aL, rfl⟩, fun _ => .inr ⟨_, itsL, nnL, lL, rfl, rfl, szL, vvL⟩⟩ }
  have F1 := fun_mk (st := xPlayer) l1 c1 k1
  have b1 := F1.binds (ps := ["self", "cost", "since", "till"]) fun _ _ _ _ _ _ us hl => match us, hl with | [_, _, _, _], _ => rfl
  have F2 := fun_mk (st := xPiece) l2 c2 k2
  have b2 := F2.binds (ps := ["self", "minutes", "players"]) fun _ _ _ _ _ _ us hl => match us, hl with | [_, _, _], _ => rfl
  have F3 := fun_mk (st := xStay) l3 c3 k3
  have b3 := F3.binds (ps := ["self", "comes", "goes", "busy"]) fun _ _ _ _ _ _ us hl => match us, hl with | [_, _, _, _], _ => rfl
  have F4 := fun_mk (st := xThere) l4 c4 k4
  have b4 := F4.binds (ps := ["self"]) fun _ _ _ _ _ _ us hl => match us, hl with | [_], _ => rfl
  have F5 := fun_mk (st := xNumbers) l5 c5 k5
  have b5 := F5.binds (ps := ["self"]) fun _ _ _ _ _ _ us hl => match us, hl with | [_], _ => rfl
  have F6 := fun_mk (st := xStayIn) l6 c6 k6
  have b6 := F6.binds (ps := ["pieces", "order", "player"]) fun _ _ _ _ _ _ us hl => match us, hl with | [_, _, _], _ => rfl
  have F7 := fun_mk (st := xStaysIn) l7 c7 k7
  have b7 := F7.binds (ps := ["pieces", "order", "many"]) fun _ _ _ _ _ _ us hl => match us, hl with | [_, _, _], _ => rfl
  have F8 := fun_mk (st := xCostOf) l8 c8 k8
  have b8 := F8.binds (ps := ["players", "stays"]) fun _ _ _ _ _ _ us hl => match us, hl with | [_, _], _ => rfl
  have F9 := fun_mk (st := xPairBehind) l9 c9 k9
  have b9 := F9.binds (ps := ["pairs", "order"]) fun _ _ _ _ _ _ us hl => match us, hl with | [_, _], _ => rfl
  have F10 := fun_mk (st := xStayWrong) l10 c10 k10
  have b10 := F10.binds (ps := ["player", "stay"]) fun _ _ _ _ _ _ us hl => match us, hl with | [_, _], _ => rfl
  have F11 := fun_mk (st := xWrongWith) l11 c11 k11
  have b11 := F11.binds (ps := ["players", "pairs", "order", "stays"]) fun _ _ _ _ _ _ us hl => match us, hl with | [_, _, _, _], _ => rfl
  have F12 := fun_mk (st := xAllOrders) l12 c12 k12
  have b12 := F12.binds (ps := ["many"]) fun _ _ _ _ _ _ us hl => match us, hl with | [_], _ => rfl
  have F13 := fun_mk (st := xAsList) l13 c13 k13
  have b13 := F13.binds (ps := ["some"]) fun _ _ _ _ _ _ us hl => match us, hl with | [_], _ => rfl
  have F14 := fun_mk (st := xStaysTold) l14 c14 k14
  have b14 := F14.binds (ps := ["stays"]) fun _ _ _ _ _ _ us hl => match us, hl with | [_], _ => rfl
  have F15 := fun_mk (st := (xDay 0)) l15 c15 k15
  have b15 := F15.binds (ps := ["self"]) fun _ _ _ _ _ _ us hl => match us, hl with | [_], _ => rfl
  have F16 := fun_mk (st := (xDay 1)) l16 c16 k16
  have b16 := F16.binds (ps := ["self"]) fun _ _ _ _ _ _ us hl => match us, hl with | [_], _ => rfl
  have F17 := fun_mk (st := (xDay 2)) l17 c17 k17
  have b17 := F17.binds (ps := ["self", "cost", "since", "till"]) fun _ _ _ _ _ _ us hl => match us, hl with | [_, _, _, _], _ => rfl
  have F18 := fun_mk (st := (xDay 3)) l18 c18 k18
  have b18 := F18.binds (ps := ["self", "some"]) fun _ _ _ _ _ _ us hl => match us, hl with | [_, _], _ => rfl
  have F19 := fun_mk (st := (xDay 4)) l19 c19 k19
  have b19 := F19.binds (ps := ["self", "minutes", "some"]) fun _ _ _ _ _ _ us hl => match us, hl with | [_, _, _], _ => rfl
  have F20 := fun_mk (st := (xDay 5)) l20 c20 k20
  have b20 := F20.binds (ps := ["self", "one", "other"]) fun _ _ _ _ _ _ us hl => match us, hl with | [_, _, _], _ => rfl
  have F21 := fun_mk (st := (xDay 6)) l21 c21 k21
  have b21 := F21.binds (ps := ["self", "order"]) fun _ _ _ _ _ _ us hl => match us, hl with | [_, _], _ => rfl
  have F22 := fun_mk (st := (xDay 7)) l22 c22 k22
  have b22 := F22.binds (ps := ["self"]) fun _ _ _ _ _ _ us hl => match us, hl with | [_], _ => rfl
  have F23 := fun_mk (st := (xDay 8)) l23 c23 k23
  have b23 := F23.binds (ps := ["self"]) fun _ _ _ _ _ _ us hl => match us, hl with | [_], _ => rfl
  have F24 := fun_mk (st := (xDay 9)) l24 c24 k24
  have b24 := F24.binds (ps := ["self", "order"]) fun _ _ _ _ _ _ us hl => match us, hl with | [_, _], _ => rfl
  have F25 := fun_mk (st := (xDay 10)) l25 c25 k25
  have b25 := F25.binds (ps := ["self"]) fun _ _ _ _ _ _ us hl => match us, hl with | [_], _ => rfl
  have F26 := fun_mk (st := (xDay 11)) l26 c26 k26
  have b26 := F26.binds (ps := ["self", "word", "some", "row"]) fun _ _ _ _ _ _ us hl => match us, hl with | [_, _, _, _], _ => rfl
  have F27 := fun_mk (st := xRowAt) l27 c27 k27
  have b27 := F27.binds (ps := ["calls", "at", "many"]) fun _ _ _ _ _ _ us hl => match us, hl with | [_, _, _], _ => rfl
  have F28 := fun_mk (st := xAnswers) l28 c28 k28
  refine ⟨PySem.W.fnOf "answers" "answers" (defArgs xAnswers) (defBody xAnswers) (defScope xAnswers) .none kV28 dc28 pm28 an28 cd28 ct28, fun s us hu => match us, hu with | [_], _ => .of_eq rfl, fun base _ _ => ?_⟩
  have m1 : CalC P w K mg base "Player" cP 1 ["self", "cost", "since", "till"] (spFields cP fP 3) := ⟨PySem.W.mg_of X G aP, _, _, ⟨mkP, a1, i1, kcP⟩, ok_player F1 T, b1⟩
  have m2 : CalC P w K mg base "Piece" cC 1 ["self", "minutes", "players"] (spFields cC fC 2) := ⟨PySem.W.mg_of X G aC, _, _, ⟨mkC, a2, i2, kcC⟩, ok_piece F2 T, b2⟩
  have m3 : CalC P w K mg base "Stay" cS 1 ["self", "comes", "goes", "busy"] (spFields cS fS 3) := ⟨PySem.W.mg_of X G aS, _, _, ⟨mkS, a3, i3, kcS⟩, ok_stay F3 T, b3⟩
  have m4 : CalM P w K mg base cS "there" 1 ["self"] (spThere cS) := ⟨_, _, ⟨a4, i4, k4⟩, ok_there F4 T, b4⟩
  have m5 : CalM P w K mg base cS "numbers" 2 ["self"] (spNumbers cS) := ⟨_, _, ⟨a5, i5, k5⟩, ok_numbers F5 T m4, b5⟩
  have m6 : Cal P w K mg base "stay_in" 3 ["pieces", "order", "player"] (spStayIn cC cS) := ⟨_, _, PySem.W.mg_of X G a6, ok_stay_in F6 T m3, k6, b6⟩
  have m7 : Cal P w K mg base "stays_in" 4 ["pieces", "order", "many"] (spStaysIn cC cS) := ⟨_, _, PySem.W.mg_of X G a7, ok_stays_in F7 T m6, k7, b7⟩
  have m8 : Cal P w K mg base "cost_of" 2 ["players", "stays"] (spCostOf cP cS) := ⟨_, _, PySem.W.mg_of X G a8, ok_cost_of F8 T m4, k8, b8⟩
  have m9 : Cal P w K mg base "pair_behind" 1 ["pairs", "order"] spPairBehind := ⟨_, _, PySem.W.mg_of X G a9, ok_pair_behind F9 T, k9, b9⟩
  have m10 : Cal P w K mg base "stay_wrong" 1 ["player", "stay"] (spStayWrong cP cS) := ⟨_, _, PySem.W.mg_of X G a10, ok_stay_wrong F10 T, k10, b10⟩
  have m11 : Cal P w K mg base "wrong_with" 2 ["players", "pairs", "order", "stays"] (spWrongWith cP cC cS) := ⟨_, _, PySem.W.mg_of X G a11, ok_wrong_with F11 T m9 m10, k11, b11⟩
  have m12 : Cal P w K mg base "all_orders" 1 ["many"] spAllOrders := ⟨_, _, PySem.W.mg_of X G a12, ok_all_orders F12 T, k12, b12⟩
  have m13 : Cal P w K mg base "as_list" 1 ["some"] spAsList := ⟨_, _, PySem.W.mg_of X G a13, ok_as_list F13 T, k13, b13⟩
  have m14 : Cal P w K mg base "stays_told" 3 ["stays"] (spStaysTold cS) := ⟨_, _, PySem.W.mg_of X G a14, ok_stays_told F14 T m5 m13, k14, b14⟩
  have m15 : CalC P w K mg base "Day" cD 1 ["self"] (spDayInit cP cC cD) := ⟨PySem.W.mg_of X G aD, _, _, ⟨mkD, a15, i15, kcD⟩, ok_day_init F15 T, b15⟩
  have m16 : CalM P w K mg base cD "begin" 1 ["self"] (spCall cP cC cD ArgsBegins) := ⟨_, _, ⟨a16, i16, k16⟩, ok_begin F16 T, b16⟩
  have m17 : CalM P w K mg base cD "add_player" 3 ["self", "cost", "since", "till"] (spCall cP cC cD ArgsPlayer) := ⟨_, _, ⟨a17, i17, k17⟩, ok_add_player F17 T m1, b17⟩
  have m18 : CalM P w K mg base cD "are_players" 1 ["self", "some"] (spArePlayers cP cC cD) := ⟨_, _, ⟨a18, i18, k18⟩, ok_are_players F18 T, b18⟩
  have m19 : CalM P w K mg base cD "add_piece" 3 ["self", "minutes", "some"] (spCall cP cC cD ArgsPiece) := ⟨_, _, ⟨a19, i19, k19⟩, ok_add_piece F19 T m18 m2, b19⟩
  have m20 : CalM P w K mg base cD "add_pair" 1 ["self", "one", "other"] (spCall cP cC cD ArgsAhead) := ⟨_, _, ⟨a20, i20, k20⟩, ok_add_pair F20 T, b20⟩
  have m21 : CalM P w K mg base cD "stays" 5 ["self", "order"] (spStays cP cC cS cD) := ⟨_, _, ⟨a21, i21, k21⟩, ok_stays F21 T m7, b21⟩
  have m22 : CalM P w K mg base cD "right_orders" 6 ["self"] (spRight cP cC cD) := ⟨_, _, ⟨a22, i22, k22⟩, ok_right F22 T m12 m21 m11 m8, b22⟩
  have m23 : CalM P w K mg base cD "best" 7 ["self"] (spCall cP cC cD ArgsBest) := ⟨_, _, ⟨a23, i23, k23⟩, ok_best F23 T m22 m21 m13 m14, b23⟩
  have m24 : CalM P w K mg base cD "check" 6 ["self", "order"] (spCall cP cC cD ArgsCheck) := ⟨_, _, ⟨a24, i24, k24⟩, ok_check F24 T m21 m13 m14 m11 m8, b24⟩
  have m25 : CalM P w K mg base cD "work" 2 ["self"] (spCall cP cC cD ArgsWork) := ⟨_, _, ⟨a25, i25, k25⟩, ok_work F25 T m13, b25⟩
  have m26 : CalM P w K mg base cD "does" 8 ["self", "word", "some", "row"] (spCall cP cC cD ArgsDoes) := ⟨_, _, ⟨a26, i26, k26⟩, ok_does F26 T m16 m17 m19 m20 m23 m24 m25, b26⟩
  have m27 : Cal P w K mg base "row_at" 1 ["calls", "at", "many"] (spRowAt K) := ⟨_, _, PySem.W.mg_of X G a27, ok_row_at F27, k27, b27⟩
  exact ok_answers F28 T m15 m27 m13 m26
end Reh
end RdEnd
open PySem PySem.W PyProof.Rows
set_option maxRecDepth 100000 in
set_option maxHeartbeats 16000000 in
theorem PySem.Challenge.cw_rehearsalday_s01_answers_holds : PySem.Challenge.rw_rehearsalday_s01_answers.Holds := by
  w_on; k_headS; (case hw => exact ⟨[.list [.int 0]], by decide +kernel, by decide +kernel⟩)
  k_fillS
  refine L2.walk_specK (r := PySem.Challenge.rw_rehearsalday_s01_answers) (k := 9) (CX := L2.CX0) (ps := ["calls"]) (sp := Reh.spAnswers) (by decide +kernel) rfl rfl ⟨rfl, by decide, by decide⟩ (fun w h Y => PySem.W.kIn_of Y) ?F ?S (fun _ _ _ _ z => z)
  case F =>
    intro w mg fa h Y KX G hmg
    refine' Reh.all_mk KX G hmg ?aP ?aC ?aS ?aD ?a1 ?i1 ?l1 ?c1 ?k1 ?a2 ?i2 ?l2 ?c2 ?k2 ?a3 ?i3 ?l3 ?c3 ?k3 ?a4 ?i4 ?l4 ?c4 ?k4 ?a5 ?i5 ?l5 ?c5 ?k5 ?a6 ?l6 ?c6 ?k6 ?a7 ?l7 ?c7 ?k7 ?a8 ?l8 ?c8 ?k8 ?a9 ?l9 ?c9 ?k9 ?a10 ?l10 ?c10 ?k10 ?a11 ?l11 ?c11 ?k11 ?a12 ?l12 ?c12 ?k12 ?a13 ?l13 ?c13 ?k13 ?a14 ?l14 ?c14 ?k14 ?a15 ?i15 ?l15 ?c15 ?k15 ?a16 ?i16 ?l16 ?c16 ?k16 ?a17 ?i17 ?l17 ?c17 ?k17 ?a18 ?i18 ?l18 ?c18 ?k18 ?a19 ?i19 ?l19 ?c19 ?k19 ?a20 ?i20 ?l20 ?c20 ?k20 ?a21 ?i21 ?l21 ?c21 ?k21 ?a22 ?i22 ?l22 ?c22 ?k22 ?a23 ?i23 ?l23 ?c23 ?k23 ?a24 ?i24 ?l24 ?c24 ?k24 ?a25 ?i25 ?l25 ?c25 ?k25 ?a26 ?i26 ?l26 ?c26 ?k26 ?a27 ?l27 ?c27 ?k27 ?a28 ?l28 ?c28 ?k28 ?pgP ?hdP ?poP ?saP ?mkP ?kcP ?nP0 ?nP1 ?nP2 ?pgC ?hdC ?poC ?saC ?mkC ?kcC ?nC0 ?nC1 ?pgS ?hdS ?poS ?saS ?mkS ?kcS ?nS0 ?nS1 ?nS2 ?pgD ?hdD ?poD ?saD ?mkD ?kcD ?nD0 ?nD1 ?nD2 ?z_len ?z_sum ?z_zip ?z_range ?z_dict ?z_enumerate ?z_any ?z_all ?z_min ?z_sorted ?z_list ?v0 ?v1 ?v2 ?v3 ?v4 ?v5 ?v6 ?v7 ?v8 ?v9 ?v10 ?v11 ?v12 ?aN ?lN ?szN ?vvN ?aL ?lL ?szL ?vvL
    (case aP => k_is)
    (case aC => k_is)
    (case aS => k_is)
    (case aD => k_is)
    (case a1 => k_is)
    (case i1 => k_is)
    (case l1 => k_is)
    (case c1 => k_is)
    (case k1 => k_is)
    (case a2 => k_is)
    (case i2 => k_is)
    (case l2 => k_is)
    (case c2 => k_is)
    (case k2 => k_is)
    (case a3 => k_is)
    (case i3 => k_is)
    (case l3 => k_is)
    (case c3 => k_is)
    (case k3 => k_is)
    (case a4 => k_is)
    (case i4 => k_is)
    (case l4 => k_is)
    (case c4 => k_is)
    (case k4 => k_is)
    (case a5 => k_is)
    (case i5 => k_is)
    (case l5 => k_is)
    (case c5 => k_is)
    (case k5 => k_is)
    (case a6 => k_is)
    (case l6 => k_is)
    (case c6 => k_is)
    (case k6 => k_is)
    (case a7 => k_is)
    (case l7 => k_is)
    (case c7 => k_is)
    (case k7 => k_is)
    (case a8 => k_is)
    (case l8 => k_is)
    (case c8 => k_is)
    (case k8 => k_is)
    (case a9 => k_is)
    (case l9 => k_is)
    (case c9 => k_is)
    (case k9 => k_is)
    (case a10 => k_is)
    (case l10 => k_is)
    (case c10 => k_is)
    (case k10 => k_is)
    (case a11 => k_is)
    (case l11 => k_is)
    (case c11 => k_is)
    (case k11 => k_is)
    (case a12 => k_is)
    (case l12 => k_is)
    (case c12 => k_is)
    (case k12 => k_is)
    (case a13 => k_is)
    (case l13 => k_is)
    (case c13 => k_is)
    (case k13 => k_is)
    (case a14 => k_is)
    (case l14 => k_is)
    (case c14 => k_is)
    (case k14 => k_is)
    (case a15 => k_is)
    (case i15 => k_is)
    (case l15 => k_is)
    (case c15 => k_is)
    (case k15 => k_is)
    (case a16 => k_is)
    (case i16 => k_is)
    (case l16 => k_is)
    (case c16 => k_is)
    (case k16 => k_is)
    (case a17 => k_is)
    (case i17 => k_is)
    (case l17 => k_is)
    (case c17 => k_is)
    (case k17 => k_is)
    (case a18 => k_is)
    (case i18 => k_is)
    (case l18 => k_is)
    (case c18 => k_is)
    (case k18 => k_is)
    (case a19 => k_is)
    (case i19 => k_is)
    (case l19 => k_is)
    (case c19 => k_is)
    (case k19 => k_is)
    (case a20 => k_is)
    (case i20 => k_is)
    (case l20 => k_is)
    (case c20 => k_is)
    (case k20 => k_is)
    (case a21 => k_is)
    (case i21 => k_is)
    (case l21 => k_is)
    (case c21 => k_is)
    (case k21 => k_is)
    (case a22 => k_is)
    (case i22 => k_is)
    (case l22 => k_is)
    (case c22 => k_is)
    (case k22 => k_is)
    (case a23 => k_is)
    (case i23 => k_is)
    (case l23 => k_is)
    (case c23 => k_is)
    (case k23 => k_is)
    (case a24 => k_is)
    (case i24 => k_is)
    (case l24 => k_is)
    (case c24 => k_is)
    (case k24 => k_is)
    (case a25 => k_is)
    (case i25 => k_is)
    (case l25 => k_is)
    (case c25 => k_is)
    (case k25 => k_is)
    (case a26 => k_is)
    (case i26 => k_is)
    (case l26 => k_is)
    (case c26 => k_is)
    (case k26 => k_is)
    (case a27 => k_is)
    (case l27 => k_is)
    (case c27 => k_is)
    (case k27 => k_is)
    (case a28 => k_is)
    (case l28 => k_is)
    (case c28 => k_is)
    (case k28 => k_is)
    (case pgP => k_is)
    (case hdP => k_is)
    (case poP => k_is)
    (case saP => k_is)
    (case mkP => k_is)
    (case kcP => k_is)
    (case nP0 => k_is)
    (case nP1 => k_is)
    (case nP2 => k_is)
    (case pgC => k_is)
    (case hdC => k_is)
    (case poC => k_is)
    (case saC => k_is)
    (case mkC => k_is)
    (case kcC => k_is)
    (case nC0 => k_is)
    (case nC1 => k_is)
    (case pgS => k_is)
    (case hdS => k_is)
    (case poS => k_is)
    (case saS => k_is)
    (case mkS => k_is)
    (case kcS => k_is)
    (case nS0 => k_is)
    (case nS1 => k_is)
    (case nS2 => k_is)
    (case pgD => k_is)
    (case hdD => k_is)
    (case poD => k_is)
    (case saD => k_is)
    (case mkD => k_is)
    (case kcD => k_is)
    (case nD0 => k_is)
    (case nD1 => k_is)
    (case nD2 => k_is)
    (case z_len => k_is)
    (case z_sum => k_is)
    (case z_zip => k_is)
    (case z_range => k_is)
    (case z_dict => k_is)
    (case z_enumerate => k_is)
    (case z_any => k_is)
    (case z_all => k_is)
    (case z_min => k_is)
    (case z_sorted => k_is)
    (case z_list => k_is)
    (case v0 => k_is)
    (case v1 => k_is)
    (case v2 => k_is)
    (case v3 => k_is)
    (case v4 => k_is)
    (case v5 => k_is)
    (case v6 => k_is)
    (case v7 => k_is)
    (case v8 => k_is)
    (case v9 => k_is)
    (case v10 => k_is)
    (case v11 => k_is)
    (case v12 => k_is)
    (case aN => k_is)
    (case lN => k_is)
    (case szN => (show 7 ≤ sizeLine; decide))
    (case vvN => exact .cons ⟨_, rfl⟩ (.cons ⟨_, rfl⟩ (.cons ⟨_, rfl⟩ (.cons ⟨_, rfl⟩ (.cons ⟨_, rfl⟩ (.cons ⟨_, rfl⟩ (.cons ⟨_, rfl⟩ .nil)))))))
    (case aL => k_is)
    (case lL => k_is)
    (case szL => (show 7 ≤ sizeLine; decide))
    (case vvL => exact .cons ⟨_, rfl⟩ (.cons ⟨_, rfl⟩ (.cons ⟨_, rfl⟩ (.cons ⟨_, rfl⟩ (.cons ⟨_, rfl⟩ (.cons ⟨_, rfl⟩ (.cons ⟨_, rfl⟩ .nil)))))))
  case S =>
    intro K H xs a hO hwi hask hx
    cases hx with
    | cons h1 h2 =>
      cases h2
      cases h1 with
      | lst hs ha =>
        have e := L2.ints_dw a.1 _ ha
        subst e
        have q : ((Codec.inLen 0 30000 a.1 && a.1.all (Codec.inInt 0 4294967295)) && true) = true := hwi
        rw [Bool.and_eq_true, Bool.and_eq_true] at q
        exact ⟨_, a.1, rfl, hs, hask, (Codec.inNat_iff.mp q.1.1).2, fun H' p hp => .lst (L2.SqL.of hp) (L2.dw_ints _)⟩
