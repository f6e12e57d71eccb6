import PyProof.Rows.All
import Wide.All
import OpenK.AllK
import Wide.FinOn
import Open.SpecLaws
import KE.OsGo
import HandS.ForSpec
import HandS.Comp
import HandS.Iter
import HandS.Walk
import HandS.Evl
import HandS.Conv
import HandS.Zip
import KE.DataMinMax
import KE.SortData
import KE.KRevSl
import PySem.Challenge.RW_loosenedplans_s01_answers
section
set_option autoImplicit false
/-! The mirror: each def of the program as a total function over plain data. A set of steps or facts is a number. -/
namespace Lp
open Pn (Act)
/-- bits of a that b hasn't -/
def andNot (a b : Nat) : Nat := a - (a &&& b)
def sub (a b : Nat) : Bool := decide (andNot a b = 0)
def noAct : Act := ⟨0, 0, 0, 0, 1⟩
def mayBe (a : Act) (s : Nat) : Bool := decide (s &&& a.pre = a.pre) && decide (s &&& a.no = 0)
def behind (a : Act) (s : Nat) : Nat := andNot s a.del ||| a.add
/-- Case.tried, from the k-th step on -/
def tried (steps : List Act) (wanted : Nat) : Nat → Nat → List Nat → Nat × Bool
  | k, s, [] => (k, decide (s &&& wanted = wanted))
  | k, s, j :: r => if mayBe (steps.getD j noAct) s = true then tried steps wanted (k + 1) (behind (steps.getD j noAct) s) r else (k, false)
def fails (steps : List Act) (so wanted : Nat) (row : List Nat) : Bool := !(tried steps wanted 0 so row).2
def maskOf (row : List Nat) : Nat := (row.map fun j => 2 ^ j).sum
/-- the steps that a row may go on with -/
def cand (o row : List Nat) : List Nat := (List.range o.length).filter fun s => !row.contains s && sub (o.getD s 0) (maskOf row)
def rowsTo (o : List Nat) : Nat → List (List Nat)
  | 0 => [[]]
  | k + 1 => (rowsTo o k).flatMap fun row => (cand o row).map fun s => row ++ [s]
def rowsOf (o : List Nat) : List (List Nat) := rowsTo o o.length
def failing (steps : List Act) (so wanted : Nat) : List (List Nat) := (rowsOf (steps.map fun _ => 0)).filter (fails steps so wanted)
def members (some many : Nat) : List Nat := (List.range many).filter fun s => some.testBit s
/-- pairs: the later step, the one before -/
def pairsOf (o : List Nat) : List (Nat × Nat) := (List.range o.length).flatMap fun j => (members (o.getD j 0) o.length).map fun i => (j, i)
def toldPairs (o : List Nat) : List Nat := (pairsOf o).flatMap fun p => [p.2, p.1]
def isWhole (o : List Nat) (some : Nat) : Bool := (members some o.length).all fun s => sub (o.getD s 0) some
def allOrders : Nat → List (List Nat)
  | 0 => [[]]
  | n + 1 => (allOrders n).flatMap fun o => ((List.range (2 ^ n)).filter fun s => isWhole o s).map fun s => o ++ [s]
/-- lets, with what is done so far -/
def letsFrom (o : List Nat) : Nat → List Nat → Bool
  | _, [] => true
  | d, j :: r => if sub (o.getD j 0) d = true then letsFrom o (d ||| 2 ^ j) r else false
def lets (o row : List Nat) : Bool := letsFrom o 0 row
def working (steps : List Act) (so wanted : Nat) : List (List Nat) := (allOrders steps.length).filter fun o => !(failing steps so wanted).any fun row => lets o row
/-- a comparison by the first difference -/
def flat (o : List Nat) : List Nat := (pairsOf o).flatMap fun p => [p.1, p.2]
def ltL (a b : List Nat) : Bool := decide ((pairsOf a).length < (pairsOf b).length) || (decide ((pairsOf a).length = (pairsOf b).length) &&
  (Pn04.less (flat a) (flat b) || (decide (flat a = flat b) && Pn04.less a b)))
/-- min of a list, by a comparison: the first of the least -/
def minBy {α : Type} (lt : α → α → Bool) (x : α) (l : List α) : α := l.foldl (fun a y => if lt y a then y else a) x
def loosened (l : List (List Nat)) : List Nat := match l with
  | [] => []
  | x :: r => minBy ltL x r
def endsOf (o each : List Nat) : List Nat := (List.range o.length).foldl (fun e j => e ++ [((members (o.getD j 0) j).map fun i => e.getD i 0).foldl max 0 + each.getD j 0]) []
def through (ends : List Nat) : Nat := ends.foldl max 0
def ltS (each a b : List Nat) : Bool := decide (through (endsOf a each) < through (endsOf b each)) || (decide (through (endsOf a each) = through (endsOf b each)) &&
  (decide ((pairsOf a).length < (pairsOf b).length) || (decide ((pairsOf a).length = (pairsOf b).length) &&
  (Pn04.less (flat a) (flat b) || (decide (flat a = flat b) && (Pn04.less (endsOf a each) (endsOf b each) || (decide (endsOf a each = endsOf b each) && Pn04.less a b)))))))
def soonest (each : List Nat) (l : List (List Nat)) : List Nat := match l with
  | [] => []
  | x :: r => minBy (ltS each) x r
def firstFailing (steps : List Act) (so wanted : Nat) (o : List Nat) : List (List Nat) := ((rowsOf o).filter (fails steps so wanted)).take 1
def wabOne (f : List Nat) (step one : Nat) : List Nat := f.set step (f.getD step 0 ||| f.getD one 0)
def wabStep (n : Nat) (f : List Nat) (step : Nat) : List Nat := (members (f.getD step 0) n).foldl (fun g one => wabOne g step one) f
def wabTurn (n : Nat) (f : List Nat) : List Nat := (List.range n).foldl (wabStep n) f
def wab (o : List Nat) : List Nat := (List.range o.length).foldl (fun f _ => wabTurn o.length f) o

/-! the house -/
structure HouseM where
  facts : Nat
  so : Nat
  wanted : Nat
  acts : List Act
  steps : List Act
  order : List Nat
def HouseM.new (facts so wanted : Nat) : HouseM := ⟨facts, so, wanted, [], [], []⟩
def begun (facts so wanted : Nat) : Option HouseM := if 1 ≤ facts ∧ facts ≤ 8 ∧ so < 2 ^ facts ∧ wanted < 2 ^ facts then some (HouseM.new facts so wanted) else none
def intsN (l : List Nat) : List Int := l.map fun (n : Nat) => (n : Int)
def isAct (facts : Nat) (told : List Nat) : Bool := decide (told.length = 5) && (decide (1 ≤ told.getD 4 0) && decide (told.getD 4 0 ≤ 1000)) && (told.take 4).all fun s => decide (s < 2 ^ facts)
def actOf (told : List Nat) : Act := ⟨told.getD 0 0, told.getD 1 0, told.getD 2 0, told.getD 3 0, told.getD 4 0⟩
def act (h : HouseM) (told : List Nat) : HouseM × List Int :=
  if h.acts.length = 12 then (h, [-7]) else if isAct h.facts told = true then ({ h with acts := h.acts ++ [actOf told] }, [(h.acts.length : Int)]) else (h, [-1])
def stepsOf (h : HouseM) (l : List Nat) : List Act := l.map fun k => h.acts.getD k noAct
def plan (h : HouseM) (l : List Nat) : HouseM × List Int :=
  if 5 < l.length then (h, [-1]) else if (l.all fun k => decide (k < h.acts.length)) = true then
    (if fails (stepsOf h l) h.so h.wanted (List.range l.length) = true then (h, [-5])
    else ({ h with steps := stepsOf h l, order := loosened (working (stepsOf h l) h.so h.wanted) }, [(((stepsOf h l).map fun a => a.cost).sum : Nat)]))
  else (h, [-5])
def loosen (h : HouseM) : List Int := ((pairsOf h.order).length : Int) :: intsN (toldPairs h.order)
def rows (h : HouseM) : List Int := ((rowsOf h.order).length : Int) :: intsN ((rowsOf h.order).flatMap fun r => r)
def failingTold (h : HouseM) (o : List Nat) : List Int := match firstFailing h.steps h.so h.wanted o with
  | [] => [0]
  | row :: _ => 1 :: ((tried h.steps h.wanted 0 h.so row).1 : Int) :: intsN row
def isNear (o : List Nat) (step later : Nat) : Bool := decide (later < o.length) && (members (o.getD later 0) o.length).contains step &&
  !(members (o.getD later 0) o.length).any fun one => (members (o.getD one 0) o.length).contains step
def why (h : HouseM) (step later : Nat) : List Int := if isNear h.order step later = true then failingTold h (h.order.set later (h.order.getD later 0 - 2 ^ step)) else [-2]
def soonestTold (h : HouseM) (each : List Nat) : List Int :=
  if each.length = h.steps.length ∧ (each.all fun k => decide (1 ≤ k) && decide (k ≤ 1000)) = true then
    (match working h.steps h.so h.wanted with
    | [] => [0]
    | x :: r => let o := minBy (ltS each) x r
      (through (endsOf o each) : Int) :: intsN (endsOf o each ++ toldPairs o))
  else [-1]
/-- two by two -/
def twos : List Nat → List (Nat × Nat)
  | a :: b :: r => (a, b) :: twos r
  | _ => []
def orderOf (n : Nat) (ps : List (Nat × Nat)) : List Nat := ps.foldl (fun o p => o.set p.2 (o.getD p.2 0 ||| 2 ^ p.1)) (List.replicate n 0)
def check (h : HouseM) (pairs : List Nat) : List Int :=
  if pairs.length % 2 = 1 ∨ (pairs.all fun k => decide (k < h.steps.length)) = false then [-1]
  else if ((List.range h.steps.length).any fun j => ((wab (orderOf h.steps.length (twos pairs))).getD j 0).testBit j) = true then [-1]
  else failingTold h (wab (orderOf h.steps.length (twos pairs)))
def nats (l : List Int) : List Nat := l.map Int.toNat
/-- one call, its number, its whole numbers, its row -/
def answer (h : HouseM) (call : Nat) (told row : List Nat) : HouseM × List Int := match call with
  | 0 => (match begun (told.getD 0 0) (told.getD 1 0) (told.getD 2 0) with
    | some g => (g, [0])
    | none => (h, [-1]))
  | 1 => act h row
  | 2 => plan h row
  | 3 => (h, loosen h)
  | 4 => (h, rows h)
  | 5 => (h, why h (told.getD 0 0) (told.getD 1 0))
  | 6 => (h, soonestTold h row)
  | _ => (h, check h row)
end Lp
end
section
set_option linter.all false
namespace Lp
open Pn04 (Order befores)
/-! ### sets of steps as numbers, and the rows -/
theorem sub_iff (a d : Nat) : sub a d = true ↔ ∀ i, a.testBit i = true → d.testBit i = true := by
  unfold sub andNot
  rw [decide_eq_true_iff]
  have hle : a &&& d ≤ a := Nat.and_le_left
  constructor
  · intro h i hi
    have e : a &&& d = a := by omega
    rw [← e, Nat.testBit_and, Bool.and_eq_true] at hi
    exact hi.2
  · intro h
    have e : a &&& d = a := Nat.eq_of_testBit_eq fun i => by
      rw [Nat.testBit_and]
      cases q : a.testBit i with
      | false => rfl
      | true => rw [h i q]; rfl
    omega
theorem add_pow : ∀ (j x : Nat), x.testBit j = false → 2 ^ j + x = x ||| 2 ^ j
  | 0, x, h => by
    have h0 : x % 2 = 0 := Nat.mod_two_eq_zero_iff_testBit_zero.mpr h
    have a := Nat.or_div_two (a := x) (b := 2 ^ 0)
    have b : (x ||| 2 ^ 0) % 2 = 1 := Nat.or_mod_two_eq_one.mpr (.inr rfl)
    have c : (2 ^ 0 : Nat) / 2 = 0 := rfl
    rw [c, Nat.or_zero] at a
    have e : (2 ^ 0 : Nat) = 1 := rfl
    omega
  | j + 1, x, h => by
    rw [Nat.testBit_add_one] at h
    have ih := add_pow j (x / 2) h
    have a := Nat.or_div_two (a := x) (b := 2 ^ (j + 1))
    have e : 2 ^ (j + 1) = 2 * 2 ^ j := by rw [Nat.pow_succ, Nat.mul_comm]
    have c : 2 ^ (j + 1) / 2 = 2 ^ j := by omega
    rw [c, ← ih] at a
    have b : (x ||| 2 ^ (j + 1)) % 2 = 1 ↔ x % 2 = 1 := by
      rw [Nat.or_mod_two_eq_one]
      omega
    omega
theorem maskOf_cons (j : Nat) (r : List Nat) : maskOf (j :: r) = 2 ^ j + maskOf r := by simp [maskOf]
theorem mask_bit : ∀ {r : List Nat}, r.Nodup → ∀ i, (maskOf r).testBit i = true ↔ i ∈ r
  | [], _, i => by simp [maskOf]
  | j :: r, h, i => by
    have hj : j ∉ r := (List.nodup_cons.mp h).1
    have ih := mask_bit (List.nodup_cons.mp h).2
    have hb : (maskOf r).testBit j = false := by
      cases q : (maskOf r).testBit j with
      | false => rfl
      | true => exact absurd ((ih j).mp q) hj
    rw [maskOf_cons, add_pow _ _ hb, Nat.testBit_or, Bool.or_eq_true, ih, Nat.testBit_two_pow, decide_eq_true_iff, List.mem_cons, or_comm]
    constructor
    · rintro (h | h)
      · exact .inl h.symm
      · exact .inr h
    · rintro (h | h)
      · exact .inl h.symm
      · exact .inr h
theorem mem_members {s n i : Nat} : i ∈ members s n ↔ i < n ∧ s.testBit i = true := by simp [members]
theorem mem_cand {o row : List Nat} {s : Nat} : s ∈ cand o row ↔ s < o.length ∧ s ∉ row ∧ sub (o.getD s 0) (maskOf row) = true := by simp [cand]
theorem mem_rowsTo {o : List Nat} {k : Nat} {row : List Nat} : row ∈ rowsTo o (k + 1) ↔ ∃ r ∈ rowsTo o k, ∃ s ∈ cand o r, row = r ++ [s] := by
  show row ∈ (rowsTo o k).flatMap _ ↔ _
  rw [List.mem_flatMap]
  constructor
  · rintro ⟨r, hr, h⟩
    obtain ⟨s, hs, rfl⟩ := List.mem_map.mp h
    exact ⟨r, hr, s, hs, rfl⟩
  · rintro ⟨r, hr, s, hs, rfl⟩
    exact ⟨r, hr, List.mem_map.mpr ⟨s, hs, rfl⟩⟩
theorem rowsTo_nodup {o : List Nat} : ∀ {k : Nat} {row : List Nat}, row ∈ rowsTo o k → row.Nodup
  | 0, row, h => by
    rw [List.mem_singleton.mp h]
    exact List.nodup_nil
  | k + 1, row, h => by
    obtain ⟨r, hr, s, hs, rfl⟩ := mem_rowsTo.mp h
    refine List.nodup_append.mpr ⟨rowsTo_nodup hr, List.nodup_cons.mpr ⟨List.not_mem_nil, List.nodup_nil⟩, ?_⟩
    intro a ha b hb e
    rw [List.mem_singleton.mp hb] at e
    exact (mem_cand.mp hs).2.1 (e ▸ ha)
theorem rowsTo_mem {o : List Nat} : ∀ {k : Nat} {row : List Nat}, row ∈ rowsTo o k → (∀ j ∈ row, j < o.length) ∧ row.length = k
  | 0, row, h => by
    rw [List.mem_singleton.mp h]
    exact ⟨fun j hj => absurd hj List.not_mem_nil, rfl⟩
  | k + 1, row, h => by
    obtain ⟨r, hr, s, hs, rfl⟩ := mem_rowsTo.mp h
    obtain ⟨a, b⟩ := rowsTo_mem hr
    refine ⟨fun j hj => ?_, by rw [List.length_append, b]; rfl⟩
    rcases List.mem_append.mp hj with q | q
    · exact a j q
    · rw [List.mem_singleton.mp q]
      exact (mem_cand.mp hs).1
/-- what is done behind a row -/
def orMask : Nat → List Nat → Nat
  | d, [] => d
  | d, j :: r => orMask (d ||| 2 ^ j) r
theorem orMask_bit : ∀ (r : List Nat) (d i : Nat), (orMask d r).testBit i = true ↔ (d.testBit i = true ∨ i ∈ r)
  | [], d, i => by simp [orMask]
  | j :: r, d, i => by
    show (orMask (d ||| 2 ^ j) r).testBit i = true ↔ _
    rw [orMask_bit r, Nat.testBit_or, Bool.or_eq_true, Nat.testBit_two_pow, decide_eq_true_iff, List.mem_cons, or_assoc]
    constructor
    · rintro (h | h | h)
      · exact .inl h
      · exact .inr (.inl h.symm)
      · exact .inr (.inr h)
    · rintro (h | h | h)
      · exact .inl h
      · exact .inr (.inl h.symm)
      · exact .inr (.inr h)
theorem orMask_eq {r : List Nat} (h : r.Nodup) : orMask 0 r = maskOf r := Nat.eq_of_testBit_eq fun i => by
  rw [Bool.eq_iff_iff, orMask_bit, mask_bit h]
  simp
theorem letsFrom_app (o : List Nat) : ∀ (r : List Nat) (d j : Nat), letsFrom o d (r ++ [j]) = (letsFrom o d r && sub (o.getD j 0) (orMask d r))
  | [], d, j => by
    show (if sub (o.getD j 0) d = true then true else false) = (true && sub (o.getD j 0) d)
    cases sub (o.getD j 0) d <;> rfl
  | x :: r, d, j => by
    show (if sub (o.getD x 0) d = true then letsFrom o (d ||| 2 ^ x) (r ++ [j]) else false) = ((if sub (o.getD x 0) d = true then letsFrom o (d ||| 2 ^ x) r else false) && sub (o.getD j 0) (orMask (d ||| 2 ^ x) r))
    cases sub (o.getD x 0) d with
    | true => exact letsFrom_app o r (d ||| 2 ^ x) j
    | false => rfl
/-- an order's rows are the rows that it lets -/
theorem rowsTo_iff {o z : List Nat} (hl : z.length = o.length) (hz : ∀ j, z.getD j 0 = 0) : ∀ (k : Nat) (row : List Nat), row ∈ rowsTo o k ↔ (row ∈ rowsTo z k ∧ lets o row = true)
  | 0, row => by
    constructor
    · intro h
      rw [List.mem_singleton.mp h]
      exact ⟨List.mem_singleton.mpr rfl, rfl⟩
    · intro h
      exact h.1
  | k + 1, row => by
    rw [mem_rowsTo, mem_rowsTo]
    have s0 : ∀ d, sub 0 d = true := fun d => (sub_iff 0 d).mpr fun i h => by rw [Nat.zero_testBit] at h; cases h
    constructor
    · rintro ⟨r, hr, s, hs, rfl⟩
      obtain ⟨a, b⟩ := (rowsTo_iff hl hz k r).mp hr
      obtain ⟨c1, c2, c3⟩ := mem_cand.mp hs
      refine ⟨⟨r, a, s, mem_cand.mpr ⟨by rw [hl]; exact c1, c2, by rw [hz]; exact s0 _⟩, rfl⟩, ?_⟩
      unfold lets
      rw [letsFrom_app, orMask_eq (rowsTo_nodup hr), c3]
      unfold lets at b
      rw [b]
      rfl
    · rintro ⟨⟨r, hr, s, hs, rfl⟩, hlet⟩
      unfold lets at hlet
      rw [letsFrom_app, orMask_eq (rowsTo_nodup hr), Bool.and_eq_true] at hlet
      obtain ⟨c1, c2, _⟩ := mem_cand.mp hs
      exact ⟨r, (rowsTo_iff hl hz k r).mpr ⟨hr, hlet.1⟩, s, mem_cand.mpr ⟨by rw [← hl]; exact c1, c2, hlet.2⟩, rfl⟩
theorem zeros_at (steps : List Pn.Act) (j : Nat) : (steps.map fun _ => 0).getD j 0 = 0 := by
  rw [List.getD_eq_getElem?_getD, List.getElem?_map]
  cases steps[j]? <;> rfl
theorem rows_iff {steps : List Pn.Act} {o : List Nat} (hl : o.length = steps.length) (row : List Nat) : row ∈ rowsOf o ↔ (row ∈ rowsOf (steps.map fun _ => 0) ∧ lets o row = true) := by
  unfold rowsOf
  have h : (steps.map fun _ => 0).length = o.length := by rw [List.length_map, hl]
  rw [h]
  exact rowsTo_iff h (zeros_at steps) _ row
/-- an order works: no row of its own fails -/
theorem working_iff {steps : List Pn.Act} {so w : Nat} {o : List Nat} (hl : o.length = steps.length) : (!(failing steps so w).any fun row => lets o row) = true ↔ ∀ row ∈ rowsOf o, fails steps so w row = false := by
  rw [Bool.not_eq_true', List.any_eq_false]
  constructor
  · intro h row hr
    obtain ⟨a, b⟩ := (rows_iff hl row).mp hr
    cases q : fails steps so w row with
    | false => rfl
    | true => exact absurd b (h row (List.mem_filter.mpr ⟨a, q⟩))
  · intro h row hr hlet
    obtain ⟨a, b⟩ := List.mem_filter.mp hr
    have := h row ((rows_iff hl row).mpr ⟨a, hlet⟩)
    rw [this] at b
    cases b
theorem mem_allOrders {n : Nat} {o : List Nat} : o ∈ allOrders (n + 1) ↔ ∃ p ∈ allOrders n, ∃ s, s < 2 ^ n ∧ isWhole p s = true ∧ o = p ++ [s] := by
  show o ∈ (allOrders n).flatMap _ ↔ _
  rw [List.mem_flatMap]
  constructor
  · rintro ⟨p, hp, h⟩
    obtain ⟨s, hs, rfl⟩ := List.mem_map.mp h
    obtain ⟨a, b⟩ := List.mem_filter.mp hs
    exact ⟨p, hp, s, List.mem_range.mp a, b, rfl⟩
  · rintro ⟨p, hp, s, a, b, rfl⟩
    exact ⟨p, hp, List.mem_map.mpr ⟨s, List.mem_filter.mpr ⟨List.mem_range.mpr a, b⟩, rfl⟩⟩
theorem isWhole_iff {o : List Nat} {s : Nat} : isWhole o s = true ↔ ∀ i ∈ members s o.length, sub (o.getD i 0) s = true := by
  unfold isWhole
  rw [List.all_eq_true]
/-! the plan's own order has one row alone -/
def chain (n : Nat) : List Nat := (List.range n).map fun j => 2 ^ j - 1
theorem chain_len (n : Nat) : (chain n).length = n := by simp [chain]
theorem chain_at {n j : Nat} (h : j < n) : (chain n).getD j 0 = 2 ^ j - 1 := by
  unfold chain
  rw [List.getD_eq_getElem?_getD, List.getElem?_map, List.getElem?_range h]
  rfl
theorem chain_in : ∀ n, chain n ∈ allOrders n
  | 0 => List.mem_singleton.mpr rfl
  | n + 1 => mem_allOrders.mpr ⟨chain n, chain_in n, 2 ^ n - 1, by have := Nat.two_pow_pos n; omega, isWhole_iff.mpr fun i hi => by
      rw [chain_len] at hi
      obtain ⟨a, _⟩ := mem_members.mp hi
      rw [chain_at a, sub_iff]
      intro k hk
      rw [Nat.testBit_two_pow_sub_one, decide_eq_true_iff] at hk ⊢
      omega, by unfold chain; rw [List.range_succ, List.map_append]; rfl⟩
theorem chain_rows (n : Nat) : ∀ {k : Nat} {row : List Nat}, row ∈ rowsTo (chain n) k → row = List.range k
  | 0, row, h => List.mem_singleton.mp h
  | k + 1, row, h => by
    obtain ⟨r, hr, s, hs, rfl⟩ := mem_rowsTo.mp h
    have e := chain_rows n hr
    subst e
    obtain ⟨a, b, c⟩ := mem_cand.mp hs
    rw [chain_len] at a
    rw [chain_at a, sub_iff] at c
    rw [List.mem_range] at b
    have : s = k := by
      by_cases hk : k < s
      · have := c k (by rw [Nat.testBit_two_pow_sub_one, decide_eq_true_iff]; exact hk)
        rw [mask_bit (rowsTo_nodup hr), List.mem_range] at this
        omega
      · omega
    rw [this, List.range_succ]
theorem working_mem {steps : List Pn.Act} {so w : Nat} {o : List Nat} : o ∈ working steps so w ↔ (o ∈ allOrders steps.length ∧ (!(failing steps so w).any fun row => lets o row) = true) := by
  unfold working
  rw [List.mem_filter]
/-- a plan has an order that works -/
theorem working_ne {steps : List Pn.Act} {so w : Nat} (h5 : steps.length ≤ 5) (h : fails steps so w (List.range steps.length) = false) : working steps so w ≠ [] := by
  have hm : chain steps.length ∈ working steps so w := working_mem.mpr ⟨chain_in _, (working_iff (chain_len _)).mpr fun row hr => by
    unfold rowsOf at hr
    rw [chain_rows _ hr, chain_len]
    exact h⟩
  intro e
  rw [e] at hm
  cases hm
end Lp
end
section
set_option linter.all false
namespace Lp
open Pn04 (Order befores)
/-! ### the house's orders and the statement's -/
/-- a mirror's order tells a statement's order -/
structure Rep (o : List Nat) (p : Order) : Prop where
  len : p.length = o.length
  at_ : ∀ j, befores p j = members (o.getD j 0) o.length
  bd : ∀ j, o.getD j 0 < 2 ^ o.length
theorem bit_lt {x n i : Nat} (h : x < 2 ^ n) (hi : x.testBit i = true) : i < n := by
  by_cases c : i < n
  · exact c
  · have := Nat.testBit_lt_two_pow (Nat.lt_of_lt_of_le h (Nat.pow_le_pow_right (by decide) (Nat.le_of_not_lt c)))
    rw [this] at hi
    cases hi
theorem Rep.mem {o : List Nat} {p : Order} (h : Rep o p) {i j : Nat} : i ∈ befores p j ↔ (o.getD j 0).testBit i = true := by
  rw [h.at_, mem_members]
  exact ⟨fun q => q.2, fun q => ⟨bit_lt (h.bd j) q, q⟩⟩
/-- the steps that a row has not -/
def left (row : List Nat) (n : Nat) : List Nat := (List.range n).filter fun s => !row.contains s
theorem mem_left {row : List Nat} {n s : Nat} : s ∈ left row n ↔ s < n ∧ s ∉ row := by simp [left]
theorem next_eq {o : List Nat} {p : Order} (h : Rep o p) {row : List Nat} (hr : row.Nodup) (hb : ∀ j ∈ row, j < o.length) : Pn04.next p (left row o.length) = cand o row := by
  unfold Pn04.next cand left
  rw [List.filter_filter]
  refine List.filter_congr fun s hs => ?_
  rw [Bool.and_comm]
  congr 1
  rw [Bool.eq_iff_iff, List.all_eq_true, sub_iff]
  constructor
  · intro q i hi
    rw [mask_bit hr]
    have a := q i (h.mem.mpr hi)
    rw [Bool.not_eq_true', List.contains_eq_mem, decide_eq_false_iff_not] at a
    have il := bit_lt (h.bd s) hi
    by_cases c : i ∈ row
    · exact c
    · exact absurd (mem_left.mpr ⟨il, c⟩) a
  · intro q i hi
    have a := q i (h.mem.mp hi)
    rw [mask_bit hr] at a
    rw [Bool.not_eq_true', List.contains_eq_mem, decide_eq_false_iff_not]
    intro c
    exact (mem_left.mp c).2 a
theorem left_more {row : List Nat} {n j : Nat} : (left row n).filter (fun k => k != j) = left (row ++ [j]) n := by
  unfold left
  rw [List.filter_filter]
  refine List.filter_congr fun s hs => ?_
  rw [Bool.eq_iff_iff]
  simp only [Bool.and_eq_true, bne_iff_ne, Bool.not_eq_true', List.contains_eq_mem, decide_eq_false_iff_not, List.mem_append, List.mem_singleton, not_or, ne_eq]
  exact and_comm
theorem flatMap_congr' {α β : Type} {f g : α → List β} : ∀ {l : List α}, (∀ x ∈ l, f x = g x) → l.flatMap f = l.flatMap g
  | [], _ => rfl
  | x :: l, h => by
    rw [List.flatMap_cons, List.flatMap_cons, h x List.mem_cons_self, flatMap_congr' fun y hy => h y (List.mem_cons_of_mem _ hy)]
theorem rows_go {o : List Nat} {p : Order} (h : Rep o p) : ∀ d k, (rowsTo o k).flatMap (fun row => (Pn04.rows p d (left row o.length)).map (fun r => row ++ r)) = rowsTo o (k + d)
  | 0, k => by
    show (rowsTo o k).flatMap (fun row => [row ++ []]) = rowsTo o k
    have : ∀ l : List (List Nat), l.flatMap (fun row => [row ++ []]) = l := fun l => by
      induction l with
      | nil => rfl
      | cons x r ih => rw [List.flatMap_cons, ih, List.append_nil]; rfl
    exact this _
  | d + 1, k => by
    have ih := rows_go h d (k + 1)
    rw [show k + (d + 1) = k + 1 + d by omega, ← ih]
    show _ = ((rowsTo o k).flatMap fun row => (cand o row).map fun s => row ++ [s]).flatMap _
    rw [List.flatMap_assoc]
    refine flatMap_congr' fun row hrow => ?_
    show ((Pn04.next p (left row o.length)).flatMap _).map _ = _
    rw [next_eq h (rowsTo_nodup hrow) (rowsTo_mem hrow).1, List.map_flatMap, List.flatMap_map]
    refine flatMap_congr' fun s hs => ?_
    rw [left_more, List.map_map]
    refine List.map_congr_left fun r hr => ?_
    show row ++ s :: r = row ++ [s] ++ r
    rw [List.append_assoc]
    rfl
theorem left_nil (n : Nat) : left [] n = List.range n := by
  unfold left
  exact List.filter_eq_self.mpr fun s hs => rfl
/-- the rows of both are the same -/
theorem rows_eq {o : List Nat} {p : Order} (h : Rep o p) : Pn04.rows p o.length (List.range o.length) = rowsOf o := by
  have a := rows_go h o.length 0
  rw [Nat.zero_add] at a
  unfold rowsOf
  rw [← a]
  show _ = ([[]] : List (List Nat)).flatMap _
  rw [List.flatMap_cons, List.flatMap_nil, List.append_nil, left_nil]
  exact (List.map_id _).symm
/-! one row gone through -/
/-- the house's steps are the plan's acts -/
structure Plan (t : Pn.Task) (plan : List Nat) (steps : List Pn.Act) : Prop where
  len : steps.length = plan.length
  lt : ∀ j, j < plan.length → plan.getD j 0 < t.acts.length
  at_ : ∀ j, j < plan.length → steps.getD j noAct = t.act (plan.getD j 0)
theorem dec_beq {a b : Nat} : (a == b) = decide (a = b) := Bool.beq_eq_decide_eq ..
theorem may_eq (a : Pn.Act) (s : Nat) : a.may s = mayBe a s := by
  show (a.pre &&& s == a.pre && (a.no &&& s == 0)) = (decide (s &&& a.pre = a.pre) && decide (s &&& a.no = 0))
  rw [dec_beq, dec_beq, Nat.and_comm a.pre s, Nat.and_comm a.no s]
theorem then_eq (a : Pn.Act) (s : Nat) : a.then_ s = behind a s := rfl
theorem done_eq (t : Pn.Task) (s : Nat) : t.done s = decide (s &&& t.goal = t.goal) := by
  show (t.goal &&& s == t.goal) = _
  rw [dec_beq, Nat.and_comm]
theorem can_eq {t : Pn.Task} {plan : List Nat} {steps : List Pn.Act} (h : Plan t plan steps) {j : Nat} (hj : j < plan.length) (s : Nat) : t.can s (plan.getD j 0) = mayBe (steps.getD j noAct) s := by
  unfold Pn.Task.can
  rw [decide_eq_true (h.lt j hj), Bool.true_and, may_eq, h.at_ j hj]
theorem far_eq {t : Pn.Task} {plan : List Nat} {steps : List Pn.Act} (h : Plan t plan steps) : ∀ (row : List Nat) (n s : Nat), (∀ j ∈ row, j < plan.length) → Pn04.far t n s (Pn04.acts plan row) = if (tried steps t.goal n s row).2 = true then none else some (tried steps t.goal n s row).1
  | [], n, s, _ => by
    show (if t.done s = true then none else some n) = if decide (s &&& t.goal = t.goal) = true then none else some n
    rw [done_eq]
  | j :: r, n, s, hr => by
    have hj := hr j List.mem_cons_self
    have ih := far_eq h r (n + 1) ((t.act (plan.getD j 0)).then_ s) fun k hk => hr k (List.mem_cons_of_mem _ hk)
    show (if t.can s (plan.getD j 0) = true then Pn04.far t (n + 1) ((t.act (plan.getD j 0)).then_ s) (Pn04.acts plan r) else some n) = _
    rw [can_eq h hj, ih]
    have e : tried steps t.goal n s (j :: r) = if mayBe (steps.getD j noAct) s = true then tried steps t.goal (n + 1) (behind (steps.getD j noAct) s) r else (n, false) := rfl
    rw [e, then_eq, ← h.at_ j hj]
    cases mayBe (steps.getD j noAct) s with
    | true => rw [if_pos rfl, if_pos rfl]
    | false => rfl
theorem far_ok {t : Pn.Task} {plan : List Nat} {steps : List Pn.Act} (h : Plan t plan steps) {row : List Nat} (hr : ∀ j ∈ row, j < plan.length) : (Pn04.far t 0 t.start (Pn04.acts plan row)).isNone = !fails steps t.start t.goal row := by
  rw [far_eq h row 0 t.start hr]
  unfold fails
  cases (tried steps t.goal 0 t.start row).2 <;> rfl
/-- the first row that fails -/
theorem fails_eq {t : Pn.Task} {plan : List Nat} {steps : List Pn.Act} (h : Plan t plan steps) {o : List Nat} {p : Order} (r : Rep o p) (hl : o.length = plan.length) :
    Pn04.fails t plan p = match firstFailing steps t.start t.goal o with
      | [] => none
      | row :: _ => some (row, (tried steps t.goal 0 t.start row).1) := by
  unfold Pn04.fails firstFailing
  rw [← hl, rows_eq r]
  have hb : ∀ row ∈ rowsOf o, ∀ j ∈ row, j < plan.length := fun row hr j hj => hl ▸ (rowsTo_mem hr).1 j hj
  have go : ∀ l : List (List Nat), (∀ row ∈ l, ∀ j ∈ row, j < plan.length) → l.findSome? (fun r => (Pn04.far t 0 t.start (Pn04.acts plan r)).map fun n => (r, n)) = match (l.filter (Lp.fails steps t.start t.goal)).take 1 with
      | [] => none
      | row :: _ => some (row, (tried steps t.goal 0 t.start row).1) := fun l => by
    induction l with
    | nil => intro _; rfl
    | cons row l ih =>
      intro hl2
      have hrow := hl2 row List.mem_cons_self
      rw [List.findSome?_cons, far_eq h row 0 t.start hrow, List.filter_cons]
      cases q : (tried steps t.goal 0 t.start row).2 with
      | true =>
        have f : Lp.fails steps t.start t.goal row = false := by unfold Lp.fails; rw [q]; rfl
        rw [f]
        exact ih fun r hr => hl2 r (List.mem_cons_of_mem _ hr)
      | false =>
        have f : Lp.fails steps t.start t.goal row = true := by unfold Lp.fails; rw [q]; rfl
        rw [f]
        rfl
  exact go _ hb
/-! an order works -/
def Low (p : Order) : Prop := ∀ j, ∀ i ∈ befores p j, i < j
theorem next_ne {p : Order} (h : Low p) : ∀ {l : List Nat}, l.Pairwise (fun a b => a < b) → l ≠ [] → Pn04.next p l ≠ []
  | [], _, hn => absurd rfl hn
  | j :: l, hp, _ => by
    have hj : j ∈ Pn04.next p (j :: l) := by
      unfold Pn04.next
      rw [List.mem_filter]
      refine ⟨List.mem_cons_self, ?_⟩
      rw [List.all_eq_true]
      intro i hi
      have hij := h j i hi
      rw [Bool.not_eq_true', List.contains_eq_mem, decide_eq_false_iff_not, List.mem_cons]
      rintro (e | e)
      · omega
      · have := (List.pairwise_cons.mp hp).1 i e
        omega
    intro e
    rw [e] at hj
    cases hj
theorem rows_ne {p : Order} (h : Low p) : ∀ (n : Nat) {l : List Nat}, l.Pairwise (fun a b => a < b) → l.length = n → Pn04.rows p n l ≠ []
  | 0, l, _, _ => by
    show [[]] ≠ []
    exact List.cons_ne_nil _ _
  | n + 1, l, hp, hl => by
    have hne : l ≠ [] := by intro e; rw [e] at hl; cases hl
    show ((Pn04.next p l).flatMap _) ≠ []
    cases q : Pn04.next p l with
    | nil => exact absurd q (next_ne h hp hne)
    | cons j r =>
      have hj : j ∈ l := by
        have : j ∈ Pn04.next p l := by rw [q]; exact List.mem_cons_self
        exact (List.mem_filter.mp this).1
      have hlen : (l.filter fun k => k != j).length = n := by
        have e : (l.filter fun k => k != j) = l.erase j := (List.Nodup.erase_eq_filter (hp.imp fun h => Nat.ne_of_lt h) j).symm
        rw [e, List.length_erase_of_mem hj, hl]
        rfl
      have ih := rows_ne h n (hp.filter fun k => k != j) hlen
      rw [List.flatMap_cons]
      intro e
      have := (List.append_eq_nil_iff.mp e).1
      exact ih (List.map_eq_nil_iff.mp this)
theorem works_eq {t : Pn.Task} {plan : List Nat} {p : Order} (h : Low p) : ∀ (n m s : Nat) (l : List Nat), l.Pairwise (fun a b => a < b) → l.length = n → Pn04.works t plan p n s l = (Pn04.rows p n l).all fun r => (Pn04.far t m s (Pn04.acts plan r)).isNone
  | 0, m, s, l, _, _ => by
    show t.done s = ((if t.done s = true then none else some m : Option Nat).isNone && true)
    cases t.done s <;> rfl
  | n + 1, m, s, l, hp, hl => by
    show ((Pn04.next p l).all fun j => t.can s (plan.getD j 0) && Pn04.works t plan p n ((t.act (plan.getD j 0)).then_ s) (l.filter fun k => k != j)) = ((Pn04.next p l).flatMap _).all _
    rw [List.all_flatMap, Bool.eq_iff_iff, List.all_eq_true, List.all_eq_true]
    have key : ∀ j ∈ Pn04.next p l, (t.can s (plan.getD j 0) && Pn04.works t plan p n ((t.act (plan.getD j 0)).then_ s) (l.filter fun k => k != j)) = (((Pn04.rows p n (l.filter fun k => k != j)).map fun r => j :: r).all fun r => (Pn04.far t m s (Pn04.acts plan r)).isNone) := by
      intro j hj
      have hj' : j ∈ l := (List.mem_filter.mp hj).1
      have hlen : (l.filter fun k => k != j).length = n := by
        have e : (l.filter fun k => k != j) = l.erase j := (List.Nodup.erase_eq_filter (hp.imp fun h => Nat.ne_of_lt h) j).symm
        rw [e, List.length_erase_of_mem hj', hl]
        rfl
      have hp' := hp.filter fun k => k != j
      rw [works_eq h n (m + 1) _ _ hp' hlen, List.all_map]
      have hne := rows_ne h n hp' hlen
      cases q : t.can s (plan.getD j 0) with
      | true =>
        rw [Bool.true_and]
        congr 1
        funext r
        show _ = (if t.can s (plan.getD j 0) = true then Pn04.far t (m + 1) ((t.act (plan.getD j 0)).then_ s) (Pn04.acts plan r) else some m).isNone
        rw [if_pos q]
      | false =>
        rw [Bool.false_and]
        cases hrows : Pn04.rows p n (l.filter fun k => k != j) with
        | nil => exact absurd hrows hne
        | cons r rest =>
          rw [List.all_cons]
          have : ((fun r => (Pn04.far t m s (Pn04.acts plan r)).isNone) ∘ fun r => j :: r) r = false := by
            show (if t.can s (plan.getD j 0) = true then Pn04.far t (m + 1) ((t.act (plan.getD j 0)).then_ s) (Pn04.acts plan r) else some m).isNone = false
            rw [if_neg (by rw [q]; decide)]
            rfl
          rw [this]
          rfl
    exact ⟨fun q j hj => (key j hj) ▸ q j hj, fun q j hj => (key j hj).symm ▸ q j hj⟩
/-- **an order is good for both alike** -/
theorem good_eq {t : Pn.Task} {plan : List Nat} {steps : List Pn.Act} (h : Plan t plan steps) {o : List Nat} {p : Order} (r : Rep o p) (hl : o.length = plan.length) (hlow : Low p) :
    Pn04.good t plan p = true ↔ (!(failing steps t.start t.goal).any fun row => lets o row) = true := by
  rw [working_iff (by rw [hl, h.len])]
  unfold Pn04.good
  rw [works_eq hlow plan.length 0 t.start _ List.pairwise_lt_range List.length_range, ← hl, rows_eq r, List.all_eq_true]
  constructor
  · intro q row hr
    have := q row hr
    rw [far_ok h fun j hj => hl ▸ (rowsTo_mem hr).1 j hj] at this
    simpa using this
  · intro q row hr
    rw [far_ok h fun j hj => hl ▸ (rowsTo_mem hr).1 j hj, q row hr]
    rfl
end Lp
end
section
set_option linter.all false
namespace Lp
open Pn04 (Order befores)
/-! ### all orders of both, and the least of them -/
theorem getD_snoc {α : Type} (p : List α) (s d : α) (j : Nat) : (p ++ [s]).getD j d = if j < p.length then p.getD j d else if j = p.length then s else d := by
  rw [List.getD_eq_getElem?_getD, List.getD_eq_getElem?_getD]
  by_cases h : j < p.length
  · rw [if_pos h, List.getElem?_append_left h]
  · rw [if_neg h, List.getElem?_append_right (Nat.le_of_not_lt h)]
    by_cases e : j = p.length
    · rw [if_pos e, e, Nat.sub_self]
      rfl
    · rw [if_neg e]
      have : (j - p.length) = (j - p.length - 1) + 1 := by omega
      rw [this]
      rfl
theorem members_succ {s n : Nat} (h : s < 2 ^ n) : members s (n + 1) = members s n := by
  unfold members
  rw [List.range_succ, List.filter_append]
  have : s.testBit n = false := Nat.testBit_lt_two_pow h
  simp [this]
theorem members_to {s j : Nat} (h : s < 2 ^ j) : ∀ {n : Nat}, j ≤ n → members s n = members s j
  | 0, q => by
    have : j = 0 := by omega
    rw [this]
  | n + 1, q => by
    by_cases e : j = n + 1
    · rw [e]
    · have hn : j ≤ n := by omega
      rw [members_succ (Nat.lt_of_lt_of_le h (Nat.pow_le_pow_right (by decide) hn)), members_to h hn]
theorem members_zero (n : Nat) : members 0 n = [] := by
  unfold members
  exact List.filter_eq_nil_iff.mpr fun s _ => by rw [Nat.zero_testBit]; decide
theorem Rep.snoc {o : List Nat} {p : Order} (h : Rep o p) {s : Nat} (hs : s < 2 ^ o.length) : Rep (o ++ [s]) (p ++ [members s o.length]) where
  len := by rw [List.length_append, List.length_append, h.len]; rfl
  at_ := fun j => by
    unfold befores
    rw [getD_snoc, getD_snoc, List.length_append, h.len]
    show _ = members _ (o.length + 1)
    by_cases c : j < o.length
    · rw [if_pos c, if_pos c, members_succ (h.bd j)]
      exact h.at_ j
    · rw [if_neg c, if_neg c]
      by_cases e : j = o.length
      · rw [if_pos e, if_pos e, members_succ hs]
      · rw [if_neg e, if_neg e, members_zero]
  bd := fun j => by
    rw [getD_snoc, List.length_append]
    show _ < 2 ^ (o.length + 1)
    have hp := Nat.pow_lt_pow_right (a := 2) (by decide) (Nat.lt_succ_self o.length)
    by_cases c : j < o.length
    · rw [if_pos c]
      exact Nat.lt_trans (h.bd j) hp
    · rw [if_neg c]
      by_cases e : j = o.length
      · rw [if_pos e]
        exact Nat.lt_trans hs hp
      · rw [if_neg e]
        exact Nat.two_pow_pos _
theorem Rep.nil : Rep [] [] where
  len := rfl
  at_ := fun j => by
    show ([] : List (List Nat)).getD j [] = members (([] : List Nat).getD j 0) 0
    cases j <;> rfl
  bd := fun j => by cases j <;> exact Nat.one_pos
theorem Rep.fn {o : List Nat} {p q : Order} (h : Rep o p) (g : Rep o q) : p = q := by
  refine List.ext_getElem (h.len.trans g.len.symm) fun j h1 h2 => ?_
  have a := (h.at_ j).trans (g.at_ j).symm
  unfold befores at a
  rw [List.getD_eq_getElem?_getD, List.getD_eq_getElem?_getD, List.getElem?_eq_getElem h1, List.getElem?_eq_getElem h2] at a
  exact a
theorem list_ext_getD {a b : List Nat} (hl : a.length = b.length) (h : ∀ j, j < a.length → a.getD j 0 = b.getD j 0) : a = b := by
  refine List.ext_getElem hl fun j h1 h2 => ?_
  have := h j h1
  rw [List.getD_eq_getElem?_getD, List.getD_eq_getElem?_getD, List.getElem?_eq_getElem h1, List.getElem?_eq_getElem h2] at this
  exact this
theorem Rep.inj {o u : List Nat} {p : Order} (h : Rep o p) (g : Rep u p) : o = u :=
  list_ext_getD (h.len.symm.trans g.len) fun j _ => Nat.eq_of_testBit_eq fun i => by
    rw [Bool.eq_iff_iff, ← h.mem, ← g.mem]
theorem mem_some : ∀ {l x : List Nat}, x ∈ Pn04.some_ l ↔ x.Sublist l
  | [], x => by
    show x ∈ [[]] ↔ _
    rw [List.mem_singleton, List.sublist_nil]
  | k :: r, x => by
    show x ∈ Pn04.some_ r ++ (Pn04.some_ r).map (fun y => k :: y) ↔ _
    rw [List.mem_append, List.mem_map, List.sublist_cons_iff, mem_some]
    refine or_congr Iff.rfl ⟨?_, ?_⟩
    · rintro ⟨y, hy, rfl⟩
      exact ⟨y, rfl, mem_some.mp hy⟩
    · rintro ⟨y, rfl, hy⟩
      exact ⟨y, mem_some.mpr hy, rfl⟩
theorem sublist_filter {l d : List Nat} (h : d.Sublist l) : l.Nodup → d = l.filter fun s => decide (s ∈ d) := by
  induction h with
  | slnil => intro _; rfl
  | @cons l1 l2 a h ih =>
    intro hn
    obtain ⟨h1, h2⟩ := List.nodup_cons.mp hn
    have ha : a ∉ l1 := fun q => h1 (h.subset q)
    rw [List.filter_cons, if_neg (by simpa using ha)]
    exact ih h2
  | @cons_cons l1 l2 a h ih =>
    intro hn
    obtain ⟨h1, h2⟩ := List.nodup_cons.mp hn
    rw [List.filter_cons, if_pos (by simp)]
    congr 1
    rw [List.filter_congr (q := fun s => decide (s ∈ l1))]
    · exact ih h2
    · intro s hs
      have : s ≠ a := fun e => h1 (e ▸ hs)
      simp [this]
theorem sub_members {n : Nat} {d : List Nat} (h : d.Sublist (List.range n)) : d = members (maskOf d) n ∧ maskOf d < 2 ^ n := by
  have hn : d.Nodup := h.nodup List.nodup_range
  refine ⟨?_, ?_⟩
  · have := sublist_filter h List.nodup_range
    unfold members
    refine this.trans (List.filter_congr fun s _ => ?_)
    rw [Bool.eq_iff_iff, mask_bit hn, decide_eq_true_iff]
  · refine Nat.lt_pow_two_of_testBit _ fun i hi => ?_
    cases q : (maskOf d).testBit i with
    | false => rfl
    | true =>
      have := List.mem_range.mp (h.subset ((mask_bit hn i).mp q))
      omega
theorem closed_iff {o : List Nat} {p : Order} (h : Rep o p) {s : Nat} (hs : s < 2 ^ o.length) : Pn04.closed p (members s o.length) = true ↔ isWhole o s = true := by
  rw [isWhole_iff]
  unfold Pn04.closed
  rw [List.all_eq_true]
  refine forall_congr' fun i => imp_congr_right fun hi => ?_
  rw [List.all_eq_true, sub_iff]
  refine forall_congr' fun k => ?_
  rw [h.mem]
  refine imp_congr_right fun hk => ?_
  rw [List.contains_eq_mem, decide_eq_true_iff, mem_members]
  exact ⟨fun q => q.2, fun q => ⟨bit_lt hs q, q⟩⟩
theorem mem_orders {n : Nat} {p : Order} : p ∈ Pn04.orders (n + 1) ↔ ∃ q ∈ Pn04.orders n, ∃ d, d.Sublist (List.range n) ∧ Pn04.closed q d = true ∧ p = q ++ [d] := by
  show p ∈ (Pn04.orders n).flatMap _ ↔ _
  rw [List.mem_flatMap]
  constructor
  · rintro ⟨q, hq, h⟩
    obtain ⟨d, hd, rfl⟩ := List.mem_map.mp h
    obtain ⟨a, b⟩ := List.mem_filter.mp hd
    exact ⟨q, hq, d, mem_some.mp a, b, rfl⟩
  · rintro ⟨q, hq, d, a, b, rfl⟩
    exact ⟨q, hq, List.mem_map.mpr ⟨d, List.mem_filter.mpr ⟨mem_some.mpr a, b⟩, rfl⟩⟩
theorem allOrders_len : ∀ {n : Nat} {o : List Nat}, o ∈ allOrders n → o.length = n
  | 0, o, h => by rw [List.mem_singleton.mp h]; rfl
  | n + 1, o, h => by
    obtain ⟨p, hp, s, _, _, rfl⟩ := mem_allOrders.mp h
    rw [List.length_append, allOrders_len hp]
    rfl
theorem allOrders_low : ∀ {n : Nat} {o : List Nat}, o ∈ allOrders n → ∀ j, o.getD j 0 < 2 ^ j
  | 0, o, h, j => by
    rw [List.mem_singleton.mp h]
    show 0 < 2 ^ j
    exact Nat.two_pow_pos _
  | n + 1, o, h, j => by
    obtain ⟨p, hp, s, hs, _, rfl⟩ := mem_allOrders.mp h
    rw [getD_snoc]
    by_cases c : j < p.length
    · rw [if_pos c]
      exact allOrders_low hp j
    · rw [if_neg c]
      by_cases e : j = p.length
      · rw [if_pos e, e, allOrders_len hp]
        exact hs
      · rw [if_neg e]
        exact Nat.two_pow_pos _
theorem orders_of : ∀ {n : Nat} {o : List Nat}, o ∈ allOrders n → ∃ p ∈ Pn04.orders n, Rep o p
  | 0, o, h => by
    rw [List.mem_singleton.mp h]
    exact ⟨[], List.mem_singleton.mpr rfl, Rep.nil⟩
  | n + 1, o, h => by
    obtain ⟨u, hu, s, hs, hw, rfl⟩ := mem_allOrders.mp h
    obtain ⟨p, hp, r⟩ := orders_of hu
    have hl := allOrders_len hu
    refine ⟨p ++ [members s u.length], mem_orders.mpr ⟨p, hp, members s u.length, ?_, (closed_iff r (by rw [hl]; exact hs)).mpr hw, rfl⟩, r.snoc (by rw [hl]; exact hs)⟩
    rw [hl]
    exact List.filter_sublist
theorem orders_by : ∀ {n : Nat} {p : Order}, p ∈ Pn04.orders n → ∃ o ∈ allOrders n, Rep o p
  | 0, p, h => by
    rw [List.mem_singleton.mp h]
    exact ⟨[], List.mem_singleton.mpr rfl, Rep.nil⟩
  | n + 1, p, h => by
    obtain ⟨q, hq, d, hd, hc, rfl⟩ := mem_orders.mp h
    obtain ⟨o, ho, r⟩ := orders_by hq
    have hl := allOrders_len ho
    obtain ⟨e, hm⟩ := sub_members hd
    rw [← hl] at e hm
    refine ⟨o ++ [maskOf d], mem_allOrders.mpr ⟨o, ho, maskOf d, by rw [← hl]; exact hm, (closed_iff r hm).mp (by rw [← e]; exact hc), rfl⟩, ?_⟩
    have := r.snoc hm
    rw [← e] at this
    exact this
theorem Rep.low {o : List Nat} {p : Order} (h : Rep o p) (hl : ∀ j, o.getD j 0 < 2 ^ j) : Low p := fun j i hi => bit_lt (hl j) (h.mem.mp hi)
/-! pairs -/
theorem Rep.pairs {o : List Nat} {p : Order} (h : Rep o p) : pairsOf o = (Pn04.pairsOf p).map fun x => (x.2, x.1) := by
  unfold pairsOf Pn04.pairsOf
  rw [List.map_flatMap, h.len]
  refine flatMap_congr' fun j _ => ?_
  rw [List.map_map, h.at_]
  rfl
theorem Rep.told {o : List Nat} {p : Order} (h : Rep o p) : toldPairs o = Pn04.told p := by
  unfold toldPairs Pn04.told
  rw [h.pairs, List.flatMap_map]
theorem Rep.flat {o : List Nat} {p : Order} (h : Rep o p) : flat o = Pn04.flat p := by
  unfold Lp.flat Pn04.flat
  rw [h.pairs, List.flatMap_map]
theorem foldl_add (l : List Nat) (z : Nat) : l.foldl (fun a b => a + b) z = z + l.sum := by
  induction l generalizing z with
  | nil => rfl
  | cons x r ih => rw [List.foldl_cons, ih, List.sum_cons, Nat.add_assoc]
theorem pn_sum (l : List Nat) : Pn.sum l = l.sum := by
  unfold Pn.sum
  rw [foldl_add, Nat.zero_add]
theorem map_at {α β : Type} (f : α → β) (d : α) (l : List α) : l.map f = (List.range l.length).map fun j => f (l.getD j d) := by
  refine List.ext_getElem (by simp) fun j h1 h2 => ?_
  rw [List.getElem_map, List.getElem_map, List.getElem_range, List.getD_eq_getElem?_getD, List.getElem?_eq_getElem (by simpa using h1)]
  rfl
theorem many_eq (p : Order) : Pn04.many p = (Pn04.pairsOf p).length := by
  unfold Pn04.many Pn04.pairsOf
  rw [pn_sum, List.length_flatMap, map_at (fun d => List.length d) [] p]
  congr 1
  refine List.map_congr_left fun j _ => ?_
  rw [List.length_map]
  rfl
theorem Rep.many {o : List Nat} {p : Order} (h : Rep o p) : Pn04.many p = (pairsOf o).length := by
  rw [many_eq, h.pairs, List.length_map]
theorem mem_pairsOf {o : List Nat} {j i : Nat} : (j, i) ∈ pairsOf o ↔ j < o.length ∧ i ∈ members (o.getD j 0) o.length := by
  unfold pairsOf
  rw [List.mem_flatMap]
  constructor
  · rintro ⟨k, hk, h⟩
    obtain ⟨x, hx, e⟩ := List.mem_map.mp h
    cases e
    exact ⟨List.mem_range.mp hk, hx⟩
  · rintro ⟨a, b⟩
    exact ⟨j, List.mem_range.mpr a, List.mem_map.mpr ⟨i, b, rfl⟩⟩
theorem flat2_inj : ∀ {a b : List (Nat × Nat)}, a.flatMap (fun p => [p.1, p.2]) = b.flatMap (fun p => [p.1, p.2]) → a = b
  | [], [], _ => rfl
  | [], y :: b, h => by cases h
  | x :: a, [], h => by cases h
  | x :: a, y :: b, h => by
    rw [List.flatMap_cons, List.flatMap_cons] at h
    injection h with h1 h2
    injection h2 with h2 h3
    rw [flat2_inj h3]
    congr 1
    exact Prod.ext h1 h2
theorem flat_inj {a b : List Nat} {p q : Order} (ha : Rep a p) (hb : Rep b q) (hl : a.length = b.length) (h : flat a = flat b) : a = b := by
  have e : pairsOf a = pairsOf b := flat2_inj h
  refine list_ext_getD hl fun j hj => Nat.eq_of_testBit_eq fun i => ?_
  rw [Bool.eq_iff_iff]
  have m : ∀ {c : List Nat} {r : Order}, Rep c r → j < c.length → ((c.getD j 0).testBit i = true ↔ (j, i) ∈ pairsOf c) := fun hc hj => by
    rw [mem_pairsOf, mem_members]
    exact ⟨fun q => ⟨hj, bit_lt (hc.bd j) q, q⟩, fun q => q.2.2⟩
  rw [m ha hj, m hb (hl ▸ hj), e]
/-! the comparison -/
theorem less_no : ∀ a : List Nat, Pn04.less a a = false
  | [] => rfl
  | x :: r => by
    show (decide (x < x) || (x == x && Pn04.less r r)) = false
    rw [less_no r, Bool.and_false, Bool.or_false]
    exact decide_eq_false (Nat.lt_irrefl x)
theorem less_cons {x y : Nat} {a b : List Nat} : Pn04.less (x :: a) (y :: b) = true ↔ x < y ∨ (x = y ∧ Pn04.less a b = true) := by
  show (decide (x < y) || (x == y && Pn04.less a b)) = true ↔ _
  rw [Bool.or_eq_true, Bool.and_eq_true, decide_eq_true_iff, beq_iff_eq]
theorem less_trans : ∀ {a b c : List Nat}, Pn04.less a b = true → Pn04.less b c = true → Pn04.less a c = true
  | [], [], _, h, _ => by cases h
  | [], _ :: _, [], _, h => by cases h
  | [], _ :: _, _ :: _, _, _ => rfl
  | _ :: _, [], _, h, _ => by cases h
  | _ :: _, _ :: _, [], _, h => by cases h
  | x :: a, y :: b, z :: c, h, g => by
    rw [less_cons] at h g ⊢
    rcases h with h | ⟨h, h'⟩
    · rcases g with g | ⟨g, g'⟩
      · exact .inl (by omega)
      · exact .inl (by omega)
    · rcases g with g | ⟨g, g'⟩
      · exact .inl (by omega)
      · exact .inr ⟨by omega, less_trans h' g'⟩
theorem less_tri : ∀ a b : List Nat, Pn04.less a b = true ∨ Pn04.less b a = true ∨ a = b
  | [], [] => .inr (.inr rfl)
  | [], _ :: _ => .inl rfl
  | _ :: _, [] => .inr (.inl rfl)
  | x :: a, y :: b => by
    rw [less_cons, less_cons]
    rcases Nat.lt_trichotomy x y with h | h | h
    · exact .inl (.inl h)
    · rcases less_tri a b with g | g | g
      · exact .inl (.inr ⟨h, g⟩)
      · exact .inr (.inl (.inr ⟨h.symm, g⟩))
      · exact .inr (.inr (by rw [h, g]))
    · exact .inr (.inl (.inl h))
theorem better_iff {a b : Order} : Pn04.better a b = true ↔ Pn04.many a < Pn04.many b ∨ (Pn04.many a = Pn04.many b ∧ Pn04.less (Pn04.flat a) (Pn04.flat b) = true) := by
  unfold Pn04.better
  rw [Bool.or_eq_true, Bool.and_eq_true, decide_eq_true_iff, beq_iff_eq]
theorem better_irrefl (a : Order) : Pn04.better a a = false := by
  cases q : Pn04.better a a with
  | false => rfl
  | true =>
    rcases better_iff.mp q with h | ⟨_, h⟩
    · omega
    · rw [less_no] at h
      cases h
theorem better_trans {a b c : Order} (h : Pn04.better a b = true) (g : Pn04.better b c = true) : Pn04.better a c = true := by
  rw [better_iff] at h g ⊢
  rcases h with h | ⟨h, h'⟩
  · rcases g with g | ⟨g, g'⟩
    · exact .inl (by omega)
    · exact .inl (by omega)
  · rcases g with g | ⟨g, g'⟩
    · exact .inl (by omega)
    · exact .inr ⟨by omega, less_trans h' g'⟩
theorem better_tri {p q : Order} {a b : List Nat} (ha : Rep a p) (hb : Rep b q) (hl : a.length = b.length) : Pn04.better p q = true ∨ Pn04.better q p = true ∨ p = q := by
  rw [better_iff, better_iff]
  rcases Nat.lt_trichotomy (Pn04.many p) (Pn04.many q) with h | h | h
  · exact .inl (.inl h)
  · rcases less_tri (Pn04.flat p) (Pn04.flat q) with g | g | g
    · exact .inl (.inr ⟨h, g⟩)
    · exact .inr (.inl (.inr ⟨h.symm, g⟩))
    · rw [← ha.flat, ← hb.flat] at g
      have e := flat_inj ha hb hl g
      subst e
      exact .inr (.inr (ha.fn hb))
  · exact .inr (.inl (.inl h))
theorem ltL_eq {p q : Order} {a b : List Nat} (ha : Rep a p) (hb : Rep b q) (hl : a.length = b.length) : ltL a b = Pn04.better p q := by
  unfold ltL Pn04.better
  rw [← ha.many, ← hb.many, ← ha.flat, ← hb.flat, dec_beq]
  have : (Pn04.less (flat a) (flat b) || (decide (flat a = flat b) && Pn04.less a b)) = Pn04.less (flat a) (flat b) := by
    by_cases e : flat a = flat b
    · have := flat_inj ha hb hl e
      subst this
      rw [less_no, less_no, Bool.and_false]
      rfl
    · rw [decide_eq_false e, Bool.false_and, Bool.or_false]
  rw [this]
/-! ends -/
theorem foldl_congr' {α β : Type} {f g : β → α → β} : ∀ {l : List α} {z : β}, (∀ x ∈ l, ∀ a, f a x = g a x) → l.foldl f z = l.foldl g z
  | [], _, _ => rfl
  | x :: l, z, h => by
    rw [List.foldl_cons, List.foldl_cons, h x List.mem_cons_self]
    exact foldl_congr' fun y hy => h y (List.mem_cons_of_mem _ hy)
theorem Rep.ends {o : List Nat} {p : Order} (h : Rep o p) (hl : ∀ j, o.getD j 0 < 2 ^ j) (each : List Nat) : Pn04.ends_ p each = endsOf o each := by
  unfold Pn04.ends_ endsOf
  rw [h.len]
  refine foldl_congr' fun j hj e => ?_
  rw [h.at_, members_to (hl j) (Nat.le_of_lt (List.mem_range.mp hj))]
theorem Rep.through {o : List Nat} {p : Order} (h : Rep o p) (hl : ∀ j, o.getD j 0 < 2 ^ j) (each : List Nat) : Pn04.through p each = through (endsOf o each) := by
  unfold Pn04.through Lp.through
  rw [h.ends hl]
theorem ltS_eq {p q : Order} {a b : List Nat} (each : List Nat) (ha : Rep a p) (hb : Rep b q) (hl : a.length = b.length) (la : ∀ j, a.getD j 0 < 2 ^ j) (lb : ∀ j, b.getD j 0 < 2 ^ j) : ltS each a b = Pn04.sooner each p q := by
  unfold ltS Pn04.sooner Pn04.better
  rw [ha.through la, hb.through lb, ← ha.many, ← hb.many, ← ha.flat, ← hb.flat, dec_beq, dec_beq]
  have : (Pn04.less (flat a) (flat b) || (decide (flat a = flat b) && (Pn04.less (endsOf a each) (endsOf b each) || (decide (endsOf a each = endsOf b each) && Pn04.less a b)))) = Pn04.less (flat a) (flat b) := by
    by_cases e : flat a = flat b
    · have := flat_inj ha hb hl e
      subst this
      rw [less_no, less_no, less_no, Bool.and_false, Bool.or_false, Bool.and_false]
      rfl
    · rw [decide_eq_false e, Bool.false_and, Bool.or_false]
  rw [this]
theorem sooner_iff {l : List Nat} {a b : Order} : Pn04.sooner l a b = true ↔ Pn04.through a l < Pn04.through b l ∨ (Pn04.through a l = Pn04.through b l ∧ Pn04.better a b = true) := by
  unfold Pn04.sooner
  rw [Bool.or_eq_true, Bool.and_eq_true, decide_eq_true_iff, beq_iff_eq]
theorem sooner_irrefl (l : List Nat) (a : Order) : Pn04.sooner l a a = false := by
  cases q : Pn04.sooner l a a with
  | false => rfl
  | true =>
    rcases sooner_iff.mp q with h | ⟨_, h⟩
    · omega
    · rw [better_irrefl] at h
      cases h
theorem sooner_trans {l : List Nat} {a b c : Order} (h : Pn04.sooner l a b = true) (g : Pn04.sooner l b c = true) : Pn04.sooner l a c = true := by
  rw [sooner_iff] at h g ⊢
  rcases h with h | ⟨h, h'⟩
  · rcases g with g | ⟨g, g'⟩
    · exact .inl (by omega)
    · exact .inl (by omega)
  · rcases g with g | ⟨g, g'⟩
    · exact .inl (by omega)
    · exact .inr ⟨by omega, better_trans h' g'⟩
/-! the least of a list -/
theorem minBy_cons {α : Type} (lt : α → α → Bool) (x z : α) (l : List α) : minBy lt x (z :: l) = minBy lt (if lt z x = true then z else x) l := by
  show List.foldl _ _ _ = List.foldl _ _ _
  rfl
theorem minBy_least {α : Type} {lt : α → α → Bool} {S : α → Prop} (ir : ∀ a, S a → lt a a = false) (tr : ∀ a b c, S a → S b → S c → lt a b = true → lt b c = true → lt a c = true) :
    ∀ (l : List α) (x : α), S x → (∀ y ∈ l, S y) → minBy lt x l ∈ x :: l ∧ (minBy lt x l = x ∨ lt (minBy lt x l) x = true) ∧ ∀ y ∈ x :: l, lt y (minBy lt x l) = false
  | [], x, hx, _ => ⟨List.mem_cons_self, .inl rfl, fun y hy => by
    rw [List.mem_singleton.mp hy]
    exact ir x hx⟩
  | z :: l, x, hx, hl => by
    have hz := hl z List.mem_cons_self
    have hl' : ∀ y ∈ l, S y := fun y hy => hl y (List.mem_cons_of_mem _ hy)
    rw [minBy_cons]
    by_cases c : lt z x = true
    · rw [if_pos c]
      obtain ⟨m1, m2, m3⟩ := minBy_least ir tr l z hz hl'
      have hm : S (minBy lt z l) := by
        rcases List.mem_cons.mp m1 with q | q
        · rw [q]; exact hz
        · exact hl' _ q
      refine ⟨List.mem_cons_of_mem _ m1, .inr ?_, fun y hy => ?_⟩
      · rcases m2 with q | q
        · rw [q]; exact c
        · exact tr _ _ _ hm hz hx q c
      · rcases List.mem_cons.mp hy with q | q
        · subst q
          cases e : lt y (minBy lt z l) with
          | false => rfl
          | true =>
            have := tr _ _ _ hz hx hm c e
            rw [m3 z List.mem_cons_self] at this
            cases this
        · exact m3 y q
    · rw [if_neg c]
      obtain ⟨m1, m2, m3⟩ := minBy_least ir tr l x hx hl'
      have hm : S (minBy lt x l) := by
        rcases List.mem_cons.mp m1 with q | q
        · rw [q]; exact hx
        · exact hl' _ q
      refine ⟨?_, m2, fun y hy => ?_⟩
      · rcases List.mem_cons.mp m1 with q | q
        · rw [q]; exact List.mem_cons_self
        · exact List.mem_cons_of_mem _ (List.mem_cons_of_mem _ q)
      · rcases List.mem_cons.mp hy with q | q
        · exact m3 y (q ▸ List.mem_cons_self)
        · rcases List.mem_cons.mp q with q | q
          · subst q
            cases e : lt y (minBy lt x l) with
            | false => rfl
            | true =>
              rcases m2 with w | w
              · rw [w] at e
                exact absurd e c
              · exact absurd (tr _ _ _ hz hm hx e w) c
          · exact m3 y (List.mem_cons_of_mem _ q)
theorem best_go (f : Order → Order → Bool) : ∀ (l : List Order) (x : Order), l.foldl (fun (a : Option Order) o => match a with
    | none => some o
    | some b => if f o b = true then some o else some b) (some x) = some (minBy f x l)
  | [], x => rfl
  | z :: l, x => by
    rw [List.foldl_cons, minBy_cons]
    show List.foldl _ (if f z x = true then some z else some x) l = _
    by_cases c : f z x = true
    · rw [if_pos c, if_pos c]
      exact best_go f l z
    · rw [if_neg c, if_neg c]
      exact best_go f l x
theorem best_cons (f : Order → Order → Bool) (x : Order) (l : List Order) : Pn04.best f (x :: l) = some (minBy f x l) := best_go f l x
/-- what is found in a list -/
def Found (n : Nat) (f : Order → Order → Bool) (lt : List Nat → List Nat → Bool) (B : List Order) : List (List Nat) → Prop
  | [] => Pn04.best f B = none
  | x :: r => ∃ p, Pn04.best f B = some p ∧ Rep (minBy lt x r) p ∧ minBy lt x r ∈ allOrders n
/-- both find the same -/
theorem best_eq {n : Nat} {f : Order → Order → Bool} {lt : List Nat → List Nat → Bool} {A : List (List Nat)} {B : List Order}
    (hA : ∀ o ∈ A, o ∈ allOrders n ∧ ∃ p ∈ B, Rep o p) (hB : ∀ p ∈ B, ∃ o ∈ A, Rep o p)
    (he : ∀ a b p q, a ∈ allOrders n → b ∈ allOrders n → Rep a p → Rep b q → lt a b = f p q)
    (ir : ∀ a, f a a = false) (tr : ∀ a b c, f a b = true → f b c = true → f a c = true)
    (tri : ∀ a b p q, a ∈ allOrders n → b ∈ allOrders n → Rep a p → Rep b q → f p q = true ∨ f q p = true ∨ p = q) :
    Found n f lt B A := by
  cases A with
  | nil =>
    cases B with
    | nil => rfl
    | cons p B =>
      obtain ⟨o, ho, _⟩ := hB p List.mem_cons_self
      cases ho
  | cons x r =>
    cases B with
    | nil =>
      obtain ⟨_, p, hp, _⟩ := hA x List.mem_cons_self
      cases hp
    | cons y s =>
      have hS : ∀ a, a ∈ allOrders n → ∃ p, Rep a p := fun a ha => (orders_of ha).imp fun p q => q.2
      obtain ⟨m1, _, m3⟩ := minBy_least (lt := lt) (S := fun a => a ∈ allOrders n) (fun a ha => by
        obtain ⟨p, hp⟩ := hS a ha
        rw [he a a p p ha ha hp hp]
        exact ir p) (fun a b c ha hb hc h g => by
        obtain ⟨p, hp⟩ := hS a ha
        obtain ⟨q, hq⟩ := hS b hb
        obtain ⟨u, hu⟩ := hS c hc
        rw [he a b p q ha hb hp hq] at h
        rw [he b c q u hb hc hq hu] at g
        rw [he a c p u ha hc hp hu]
        exact tr _ _ _ h g) r x (hA x List.mem_cons_self).1 fun z hz => (hA z (List.mem_cons_of_mem _ hz)).1
      obtain ⟨k1, _, k3⟩ := minBy_least (lt := f) (S := fun _ => True) (fun a _ => ir a) (fun a b c _ _ _ => tr a b c) s y trivial fun _ _ => trivial
      obtain ⟨hmA, p1, hp1, r1⟩ := hA _ m1
      obtain ⟨o2, ho2, r2⟩ := hB _ k1
      have ho2A := (hA _ ho2).1
      refine ⟨minBy f y s, best_cons f y s, ?_, hmA⟩
      have e : p1 = minBy f y s := by
        rcases tri _ _ _ _ hmA ho2A r1 r2 with q | q | q
        · rw [k3 p1 hp1] at q
          cases q
        · rw [← he _ _ _ _ ho2A hmA r2 r1, m3 o2 ho2] at q
          cases q
        · exact q
      rw [← e]
      exact r1
end Lp
end
section
set_option linter.all false
namespace Lp
open Pn04 (Order befores)
/-! ### what comes before, over any others -/
/-- ways over steps below a number -/
def War (R : Nat → Nat → Prop) : Nat → Nat → Nat → Prop
  | 0 => R
  | k + 1 => fun i j => War R k i j ∨ (War R k i k ∧ War R k k j)
theorem war_to {R : Nat → Nat → Prop} : ∀ {k : Nat} {i : Nat}, War R (k + 1) i k → War R k i k := fun h => by
  rcases h with h | ⟨h, _⟩
  · exact h
  · exact h
theorem war_from {R : Nat → Nat → Prop} : ∀ {k : Nat} {j : Nat}, War R (k + 1) k j → War R k k j := fun h => by
  rcases h with h | ⟨_, h⟩
  · exact h
  · exact h
theorem war_via {R : Nat → Nat → Prop} : ∀ {k i m j : Nat}, m < k → War R k i m → War R k m j → War R k i j
  | 0, i, m, j, h, _, _ => absurd h (Nat.not_lt_zero m)
  | k + 1, i, m, j, h, a, b => by
    by_cases e : m = k
    · subst e
      exact .inr ⟨war_to a, war_from b⟩
    · have hm : m < k := by omega
      rcases a with a | ⟨a, a'⟩
      · rcases b with b | ⟨b, b'⟩
        · exact .inl (war_via hm a b)
        · exact .inr ⟨war_via hm a b, b'⟩
      · rcases b with b | ⟨b, b'⟩
        · exact .inr ⟨a, war_via hm a' b⟩
        · exact .inr ⟨a, b'⟩
theorem war_base {R : Nat → Nat → Prop} : ∀ {k i j : Nat}, R i j → War R k i j
  | 0, _, _, h => h
  | k + 1, _, _, h => .inl (war_base h)
theorem war_lt {R : Nat → Nat → Prop} {n : Nat} (h : ∀ i j, R i j → i < n ∧ j < n) : ∀ {k i j : Nat}, War R k i j → i < n ∧ j < n
  | 0, _, _, q => h _ _ q
  | k + 1, _, _, q => by
    rcases q with q | ⟨q, q'⟩
    · exact war_lt h q
    · exact ⟨(war_lt h q).1, (war_lt h q').2⟩
/-! the statement's -/
def stepJ (n : Nat) (o : Order) : Order := (List.range n).map fun j => (List.range n).filter fun i => (befores o j).contains i || (List.range n).any fun m => (befores o m).contains i && (befores o j).contains m
theorem befores_map {n : Nat} {f : Nat → List Nat} {j : Nat} : befores ((List.range n).map f) j = if j < n then f j else [] := by
  unfold befores
  rw [List.getD_eq_getElem?_getD, List.getElem?_map]
  by_cases c : j < n
  · rw [if_pos c, List.getElem?_range c]
    rfl
  · rw [if_neg c, List.getElem?_eq_none (by rw [List.length_range]; omega)]
    rfl
/-- each row rises below n -/
def Rises (n : Nat) (o : Order) : Prop := o.length = n ∧ ∀ j, befores o j = (List.range n).filter fun i => (befores o j).contains i
theorem rises_map {n : Nat} (q : Nat → Nat → Bool) : Rises n ((List.range n).map fun j => (List.range n).filter (q j)) := by
  refine ⟨by simp, fun j => ?_⟩
  rw [befores_map]
  by_cases c : j < n
  · rw [if_pos c]
    refine List.filter_congr fun i hi => ?_
    rw [Bool.eq_iff_iff, List.contains_eq_mem, decide_eq_true_iff, List.mem_filter]
    exact ⟨fun h => ⟨hi, h⟩, fun h => h.2⟩
  · rw [if_neg c]
    exact (List.filter_eq_nil_iff.mpr fun i _ => by simp).symm
theorem mem_stepJ {n : Nat} {o : Order} {i j : Nat} : i ∈ befores (stepJ n o) j ↔ j < n ∧ i < n ∧ (i ∈ befores o j ∨ ∃ m, m < n ∧ i ∈ befores o m ∧ m ∈ befores o j) := by
  unfold stepJ
  rw [befores_map]
  by_cases c : j < n
  · rw [if_pos c, List.mem_filter, List.mem_range]
    simp [c]
  · rw [if_neg c]
    simp [c]
theorem closing_in {R : Nat → Nat → Prop} {n : Nat} {ps : List (Nat × Nat)} : ∀ (k m : Nat) (o : Order), m + k = n → Rises n o → (∀ i j, War R m i j → i < n ∧ j < n) → (∀ i j, War R m i j → i ∈ befores o j) → (∀ i j, i ∈ befores o j → War R n i j) →
    Rises n (Pn04.closing n ps k o) ∧ ∀ i j, i ∈ befores (Pn04.closing n ps k o) j ↔ War R n i j
  | 0, m, o, e, r, _, a, b => by
    have : m = n := by omega
    subst this
    exact ⟨r, fun i j => ⟨b i j, a i j⟩⟩
  | k + 1, m, o, e, r, hlt, a, b => by
    have hlt' : ∀ i j, War R (m + 1) i j → i < n ∧ j < n := fun i j h => by
      rcases h with h | ⟨h, h'⟩
      · exact hlt i j h
      · exact ⟨(hlt _ _ h).1, (hlt _ _ h').2⟩
    refine closing_in k (m + 1) (stepJ n o) (by omega) (rises_map _) hlt' (fun i j h => ?_) (fun i j h => ?_)
    · have hb := hlt' i j h
      refine mem_stepJ.mpr ⟨hb.2, hb.1, ?_⟩
      rcases h with h | ⟨h, h'⟩
      · exact .inl (a i j h)
      · exact .inr ⟨m, by omega, a _ _ h, a _ _ h'⟩
    · obtain ⟨_, _, h⟩ := mem_stepJ.mp h
      rcases h with h | ⟨q, hq, h, h'⟩
      · exact b i j h
      · exact war_via hq (b _ _ h) (b _ _ h')
theorem orderOf_spec {n : Nat} {ps : List (Nat × Nat)} (h : ∀ p ∈ ps, p.1 < n ∧ p.2 < n) : Rises n (Pn04.orderOf n ps) ∧ ∀ i j, i ∈ befores (Pn04.orderOf n ps) j ↔ War (fun i j => (i, j) ∈ ps) n i j := by
  unfold Pn04.orderOf
  have hb : ∀ i j, i ∈ befores ((List.range n).map fun j => (List.range n).filter fun i => ps.contains (i, j)) j ↔ (i, j) ∈ ps := fun i j => by
    rw [befores_map]
    by_cases c : j < n
    · rw [if_pos c, List.mem_filter, List.mem_range, List.contains_iff_mem]
      exact ⟨fun q => q.2, fun q => ⟨(h _ q).1, q⟩⟩
    · rw [if_neg c]
      exact ⟨fun q => absurd q List.not_mem_nil, fun q => absurd (h (i, j) q).2 c⟩
  exact closing_in n 0 _ (by omega) (rises_map _) (fun i j q => h _ q) (fun i j q => (hb i j).mpr q) fun i j q => war_base ((hb i j).mp q)
/-! the house's -/
abbrev B (f : List Nat) (i j : Nat) : Prop := (f.getD j 0).testBit i = true
theorem getD_set (f : List Nat) (k v j : Nat) (hk : k < f.length) : (f.set k v).getD j 0 = if j = k then v else f.getD j 0 := by
  rw [List.getD_eq_getElem?_getD, List.getD_eq_getElem?_getD, List.getElem?_set]
  by_cases c : k = j
  · rw [if_pos c, if_pos (by omega), if_pos c.symm]
    rfl
  · rw [if_neg c, if_neg (fun q => c q.symm)]
def LeF (f g : List Nat) : Prop := f.length = g.length ∧ ∀ i j, B f i j → B g i j
theorem LeF.refl (f : List Nat) : LeF f f := ⟨rfl, fun _ _ h => h⟩
theorem LeF.trans {f g h : List Nat} (a : LeF f g) (b : LeF g h) : LeF f h := ⟨a.1.trans b.1, fun i j q => b.2 i j (a.2 i j q)⟩
theorem wabOne_bit {f : List Nat} {s m : Nat} (hs : s < f.length) {i j : Nat} : B (wabOne f s m) i j ↔ B f i j ∨ (j = s ∧ B f i m) := by
  unfold wabOne B
  rw [getD_set _ _ _ _ hs]
  by_cases c : j = s
  · subst c
    rw [if_pos rfl, Nat.testBit_or, Bool.or_eq_true]
    simp
  · rw [if_neg c]
    simp [c]
theorem wabOne_le {f : List Nat} {s m : Nat} : LeF f (wabOne f s m) := by
  refine ⟨by unfold wabOne; rw [List.length_set], fun i j h => ?_⟩
  by_cases hs : s < f.length
  · exact (wabOne_bit hs).mpr (.inl h)
  · unfold wabOne
    rw [List.set_eq_of_length_le (Nat.le_of_not_lt hs)]
    exact h
theorem foldl_le {α : Type} {F : List Nat → α → List Nat} (hF : ∀ f x, LeF f (F f x)) : ∀ (l : List α) (f : List Nat), LeF f (l.foldl F f)
  | [], f => LeF.refl f
  | x :: l, f => (hF f x).trans (foldl_le hF l (F f x))
theorem foldl_at {α : Type} {F : List Nat → α → List Nat} (hF : ∀ f x, LeF f (F f x)) : ∀ (l : List α) (f : List Nat) (x : α), x ∈ l → ∃ g, LeF f g ∧ LeF (F g x) (l.foldl F f)
  | y :: l, f, x, h => by
    rcases List.mem_cons.mp h with h | h
    · subst h
      exact ⟨f, LeF.refl f, foldl_le hF l (F f x)⟩
    · obtain ⟨g, a, b⟩ := foldl_at hF l (F f y) x h
      exact ⟨g, (hF f y).trans a, b⟩
theorem foldl_inv {α : Type} {F : List Nat → α → List Nat} {I : List Nat → Prop} : ∀ (l : List α) (f : List Nat), (∀ g x, x ∈ l → I g → I (F g x)) → I f → I (l.foldl F f)
  | [], f, _, h => h
  | x :: l, f, q, h => foldl_inv l (F f x) (fun g y hy => q g y (List.mem_cons_of_mem _ hy)) (q f x List.mem_cons_self h)
theorem wabStep_le {n : Nat} (f : List Nat) (s : Nat) : LeF f (wabStep n f s) := foldl_le (fun _ _ => wabOne_le) _ _
theorem wabTurn_le {n : Nat} (f : List Nat) : LeF f (wabTurn n f) := foldl_le (fun f s => wabStep_le f s) _ _
theorem wabTurn_more {f : List Nat} {n i m j : Nat} (hf : f.length = n) (hm : m < n) (hj : j < n) (h1 : B f i m) (h2 : B f m j) : B (wabTurn n f) i j := by
  obtain ⟨g, a, b⟩ := foldl_at (F := wabStep n) (fun f s => wabStep_le f s) (List.range n) f j (List.mem_range.mpr hj)
  refine b.2 i j ?_
  have hmem : m ∈ members (g.getD j 0) n := mem_members.mpr ⟨hm, a.2 _ _ h2⟩
  obtain ⟨h, c, d⟩ := foldl_at (F := fun g one => wabOne g j one) (fun _ _ => wabOne_le) (members (g.getD j 0) n) g m hmem
  refine d.2 i j ?_
  have hl : j < h.length := by rw [← c.1, ← a.1, hf]; exact hj
  exact (wabOne_bit hl).mpr (.inr ⟨rfl, c.2 _ _ (a.2 _ _ h1)⟩)
theorem wabTurn_in {f : List Nat} {n : Nat} {T : Nat → Nat → Prop} (ht : ∀ i m j, m < n → T i m → T m j → T i j) (hf : f.length = n ∧ ∀ i j, B f i j → T i j) : (wabTurn n f).length = n ∧ ∀ i j, B (wabTurn n f) i j → T i j := by
  refine foldl_inv (I := fun f => f.length = n ∧ ∀ i j, B f i j → T i j) (List.range n) f (fun g s hs hg => ?_) hf
  have hs' := List.mem_range.mp hs
  refine foldl_inv (I := fun f => f.length = n ∧ ∀ i j, B f i j → T i j) (members (g.getD s 0) n) g (fun h m hm hh => ?_) hg
  obtain ⟨m1, m2⟩ := mem_members.mp hm
  refine ⟨wabOne_le.1.symm.trans hh.1, fun i j q => ?_⟩
  rcases (wabOne_bit (by rw [hh.1]; exact hs')).mp q with q1 | ⟨e, q1⟩
  · exact hh.2 i j q1
  · rw [e]
    exact ht i m s m1 (hh.2 _ _ q1) (hg.2 _ _ m2)
theorem wab_bit {o : List Nat} {n : Nat} {R : Nat → Nat → Prop} (hl : o.length = n) (hR : ∀ i j, B o i j ↔ R i j) (hb : ∀ i j, R i j → i < n ∧ j < n) : (wab o).length = n ∧ ∀ i j, B (wab o) i j ↔ War R n i j := by
  have up : ∀ k, k ≤ n → (((List.range k).foldl (fun f _ => wabTurn n f) o).length = n ∧ ∀ i j, B ((List.range k).foldl (fun f _ => wabTurn n f) o) i j → War R n i j) ∧ ∀ i j, War R k i j → B ((List.range k).foldl (fun f _ => wabTurn n f) o) i j := by
    intro k
    induction k with
    | zero =>
      intro _
      exact ⟨⟨hl, fun i j h => war_base ((hR i j).mp h)⟩, fun i j h => (hR i j).mpr h⟩
    | succ k ih =>
      intro hk
      obtain ⟨a, b⟩ := ih (by omega)
      rw [List.range_succ, List.foldl_append]
      refine ⟨wabTurn_in (fun i m j hm => war_via hm) a, fun i j h => ?_⟩
      have hlt := war_lt hb h
      rcases h with h | ⟨h, h'⟩
      · exact (wabTurn_le _).2 _ _ (b i j h)
      · exact wabTurn_more a.1 (by omega) hlt.2 (b _ _ h) (b _ _ h')
  unfold wab
  rw [hl]
  obtain ⟨a, b⟩ := up n (Nat.le_refl n)
  exact ⟨a.1, fun i j => ⟨a.2 i j, b i j⟩⟩
theorem orderOf_bit : ∀ (ps : List (Nat × Nat)) (o : List Nat), (∀ p ∈ ps, p.2 < o.length) → (ps.foldl (fun o p => o.set p.2 (o.getD p.2 0 ||| 2 ^ p.1)) o).length = o.length ∧ ∀ i j, B (ps.foldl (fun o p => o.set p.2 (o.getD p.2 0 ||| 2 ^ p.1)) o) i j ↔ B o i j ∨ (i, j) ∈ ps
  | [], o, _ => ⟨rfl, fun i j => by simp⟩
  | p :: ps, o, h => by
    have hp := h p List.mem_cons_self
    have hl : (o.set p.2 (o.getD p.2 0 ||| 2 ^ p.1)).length = o.length := List.length_set ..
    obtain ⟨a, b⟩ := orderOf_bit ps (o.set p.2 (o.getD p.2 0 ||| 2 ^ p.1)) fun q hq => by rw [hl]; exact h q (List.mem_cons_of_mem _ hq)
    refine ⟨a.trans hl, fun i j => ?_⟩
    rw [List.foldl_cons, b, List.mem_cons]
    have e : B (o.set p.2 (o.getD p.2 0 ||| 2 ^ p.1)) i j ↔ B o i j ∨ (i, j) = p := by
      unfold B
      rw [getD_set _ _ _ _ hp]
      obtain ⟨x, y⟩ := p
      by_cases c : j = y
      · subst c
        rw [if_pos rfl, Nat.testBit_or, Bool.or_eq_true, Nat.testBit_two_pow, decide_eq_true_iff]
        refine or_congr Iff.rfl ⟨fun q => Prod.ext q.symm rfl, fun q => ?_⟩
        injection q with q _
        exact q.symm
      · rw [if_neg c]
        refine ⟨fun q => .inl q, fun q => ?_⟩
        rcases q with q | q
        · exact q
        · injection q with _ q
          exact absurd q c
    rw [e, or_assoc]
theorem wab_rep {n : Nat} {ps : List (Nat × Nat)} (h : ∀ p ∈ ps, p.1 < n ∧ p.2 < n) : Rep (wab (orderOf n ps)) (Pn04.orderOf n ps) := by
  obtain ⟨a, b⟩ := orderOf_spec h
  have hz : (List.replicate n 0).length = n := List.length_replicate
  obtain ⟨c, d⟩ := orderOf_bit ps (List.replicate n 0) fun p hp => by rw [hz]; exact (h p hp).2
  have z : ∀ i j, ¬ B (List.replicate n 0) i j := fun i j q => by
    unfold B at q
    have : (List.replicate n 0).getD j 0 = 0 := by
      rw [List.getD_eq_getElem?_getD, List.getElem?_replicate]
      by_cases c : j < n
      · rw [if_pos c]; rfl
      · rw [if_neg c]; rfl
    rw [this, Nat.zero_testBit] at q
    cases q
  obtain ⟨e, f⟩ := wab_bit (o := orderOf n ps) (n := n) (R := fun i j => (i, j) ∈ ps) (c.trans hz) (fun i j => (d i j).trans ⟨fun q => q.resolve_left (z i j), fun q => .inr q⟩) fun i j q => h _ q
  have lt : ∀ i j, War (fun i j => (i, j) ∈ ps) n i j → i < n ∧ j < n := fun i j q => war_lt (fun i j q => h _ q) q
  refine ⟨a.1.trans e.symm, fun j => ?_, fun j => ?_⟩
  · rw [e, a.2 j]
    unfold members
    refine List.filter_congr fun i _ => ?_
    rw [Bool.eq_iff_iff, List.contains_eq_mem, decide_eq_true_iff, b, ← f]
  · rw [e]
    refine Nat.lt_pow_two_of_testBit _ fun i hi => ?_
    cases q : ((wab (orderOf n ps)).getD j 0).testBit i with
    | false => rfl
    | true =>
      have := (lt i j ((f i j).mp q)).1
      omega
/-! near pairs, and one left out -/
theorem near_eq {o : List Nat} {p : Order} (h : Rep o p) (i j : Nat) : Pn04.near p i j = isNear o i j := by
  unfold Pn04.near isNear
  by_cases c : j < o.length
  · rw [decide_eq_true c, Bool.true_and, h.at_]
    congr 2
    congr 1
    funext m
    rw [h.at_]
  · rw [decide_eq_false c, Bool.false_and, Bool.false_and, h.at_]
    have : o.getD j 0 = 0 := by
      rw [List.getD_eq_getElem?_getD, List.getElem?_eq_none (by omega)]
      rfl
    rw [this, members_zero]
    rfl
theorem sub_pow {x i : Nat} (h : x.testBit i = true) (k : Nat) : (x - 2 ^ i).testBit k = true ↔ x.testBit k = true ∧ k ≠ i := by
  have hle := Nat.ge_two_pow_of_testBit h
  have e : 2 ^ i + (x - 2 ^ i) = x := by omega
  have b : (x - 2 ^ i).testBit i = false := by
    have := Nat.testBit_two_pow_add_eq (x - 2 ^ i) i
    rw [e, h] at this
    cases q : (x - 2 ^ i).testBit i with
    | false => rfl
    | true => rw [q] at this; cases this
  have o := add_pow i (x - 2 ^ i) b
  rw [e] at o
  have hk : x.testBit k = true ↔ (x - 2 ^ i).testBit k = true ∨ i = k := by
    have : x.testBit k = ((x - 2 ^ i) ||| 2 ^ i).testBit k := by rw [← o]
    rw [this, Nat.testBit_or, Bool.or_eq_true, Nat.testBit_two_pow, decide_eq_true_iff]
  rw [hk]
  constructor
  · intro q
    refine ⟨.inl q, fun z => ?_⟩
    rw [z, b] at q
    cases q
  · rintro ⟨q | q, z⟩
    · exact q
    · exact absurd q.symm z
theorem drop_rep {o : List Nat} {p : Order} (h : Rep o p) {i j : Nat} (hn : isNear o i j = true) : Rep (o.set j (o.getD j 0 - 2 ^ i)) (Pn04.drop p i j) := by
  unfold isNear at hn
  rw [Bool.and_eq_true, Bool.and_eq_true, decide_eq_true_iff, List.contains_eq_mem, decide_eq_true_iff] at hn
  obtain ⟨⟨hj, hm⟩, _⟩ := hn
  have hb := (mem_members.mp hm).2
  have hlt : ∀ k, (o.set j (o.getD j 0 - 2 ^ i)).getD k 0 < 2 ^ o.length := fun k => by
    rw [getD_set _ _ _ _ hj]
    by_cases c : k = j
    · rw [if_pos c]
      exact Nat.lt_of_le_of_lt (Nat.sub_le _ _) (h.bd j)
    · rw [if_neg c]
      exact h.bd k
  refine ⟨?_, fun k => ?_, fun k => ?_⟩
  · unfold Pn04.drop
    rw [List.length_map, List.length_range, List.length_set, h.len]
  · unfold Pn04.drop
    rw [befores_map, getD_set _ _ _ _ hj, List.length_set, h.len]
    by_cases c : k < o.length
    · rw [if_pos c]
      by_cases e : k = j
      · subst e
        rw [if_pos rfl, if_pos rfl, h.at_]
        unfold members
        rw [List.filter_filter]
        refine List.filter_congr fun m _ => ?_
        rw [Bool.eq_iff_iff, sub_pow hb, Bool.and_eq_true, bne_iff_ne]
        exact and_comm
      · rw [if_neg e, if_neg e, h.at_]
    · have e : ¬ k = j := by omega
      rw [if_neg c, if_neg e, List.getD_eq_getElem?_getD, List.getElem?_eq_none (by omega)]
      exact (members_zero _).symm
  · rw [List.length_set]
    exact hlt k
end Lp
end
section
set_option linter.all false
namespace Lp
open Pn04 (Order befores)
/-! ### each call: the house's answer is the statement's -/
structure Rel (m : HouseM) (s : Pn04.House) : Prop where
  task : s.task = ⟨m.facts, m.acts, m.so, m.wanted⟩
  plan : Plan s.task s.plan m.steps
  five : s.plan.length ≤ 5
  rep : Rep m.order s.order
  ol : m.order.length = m.steps.length
def out (a : Pn04.Ans) : List Int := a.v :: intsN a.l
/-- one call: what is due -/
def Due (r : HouseM × List Int) (q : Pn04.House × Pn04.Ans) : Prop := Rel r.1 q.1 ∧ r.2 = out q.2
theorem plan_nil (t : Pn.Task) : Plan t [] [] := ⟨rfl, fun _ h => absurd h (Nat.not_lt_zero _), fun _ h => absurd h (Nat.not_lt_zero _)⟩
theorem rel_new (f s w : Nat) : Rel (HouseM.new f s w) ⟨⟨f, [], s, w⟩, [], []⟩ := ⟨rfl, plan_nil _, Nat.zero_le _, Rep.nil, rfl⟩
theorem due_begins {m : HouseM} {h : Pn04.House} (r : Rel m h) (n s g : Nat) : Due (match begun n s g with
    | some x => (x, [0])
    | none => (m, [-1])) (Pn04.step h (.begins n s g)) := by
  unfold begun
  show Due _ (if n = 0 ∨ 8 < n ∨ 2 ^ n ≤ s ∨ 2 ^ n ≤ g then (h, Pn04.ok (-1)) else (⟨⟨n, [], s, g⟩, [], []⟩, Pn04.ok 0))
  by_cases c : 1 ≤ n ∧ n ≤ 8 ∧ s < 2 ^ n ∧ g < 2 ^ n
  · rw [if_pos c, if_neg (by omega)]
    exact ⟨rel_new n s g, rfl⟩
  · rw [if_neg c, if_pos (by omega)]
    exact ⟨r, rfl⟩
theorem act_eq (n : Nat) (l : List Nat) : Pn.act? n l = if isAct n l = true then some (actOf l) else none := by
  match l with
  | [] => rfl
  | [_] => rfl
  | [_, _] => rfl
  | [_, _, _] => rfl
  | [_, _, _, _] => rfl
  | [p, q, a, d, c] =>
    show (if (⟨p, q, a, d, c⟩ : Pn.Act).right n = true then some (⟨p, q, a, d, c⟩ : Pn.Act) else none) = if isAct n [p, q, a, d, c] = true then some ⟨p, q, a, d, c⟩ else none
    have e : (⟨p, q, a, d, c⟩ : Pn.Act).right n = isAct n [p, q, a, d, c] := by
      show (decide (p < 2 ^ n) && (decide (q < 2 ^ n) && (decide (a < 2 ^ n) && (decide (d < 2 ^ n) && (decide (1 ≤ c) && decide (c ≤ 1000)))))) = (true && (decide (1 ≤ c) && decide (c ≤ 1000)) && (decide (p < 2 ^ n) && (decide (q < 2 ^ n) && (decide (a < 2 ^ n) && (decide (d < 2 ^ n) && true)))))
      rw [Bool.eq_iff_iff]
      simp only [Bool.and_eq_true, decide_eq_true_iff, true_and, and_true]
      exact ⟨fun ⟨a, b, c, d, e⟩ => ⟨e, a, b, c, d⟩, fun ⟨e, a, b, c, d⟩ => ⟨a, b, c, d, e⟩⟩
    rw [e]
  | _ :: _ :: _ :: _ :: _ :: _ :: l =>
    show none = _
    rw [if_neg]
    unfold isAct
    intro h
    rw [Bool.and_eq_true, Bool.and_eq_true, decide_eq_true_iff] at h
    have := h.1.1
    simp at this
theorem plan_more {t : Pn.Task} {plan : List Nat} {steps : List Pn.Act} (h : Plan t plan steps) (a : Pn.Act) : Plan { t with acts := t.acts ++ [a] } plan steps := by
  refine ⟨h.len, fun j hj => ?_, fun j hj => ?_⟩
  · show _ < (t.acts ++ [a]).length
    rw [List.length_append]
    exact Nat.lt_succ_of_lt (h.lt j hj)
  · rw [h.at_ j hj]
    unfold Pn.Task.act
    show _ = (t.acts ++ [a]).getD _ _
    rw [getD_snoc, if_pos (h.lt j hj)]
theorem due_act {m : HouseM} {h : Pn04.House} (r : Rel m h) (l : List Nat) : Due (act m l) (Pn04.step h (.act l)) := by
  show Due _ (if h.task.acts.length = 12 then (h, Pn04.ok (-7)) else match Pn.act? h.task.facts l with
    | none => (h, Pn04.ok (-1))
    | some a => ({ h with task := { h.task with acts := h.task.acts ++ [a] } }, Pn04.ok (h.task.acts.length : Nat)))
  unfold act
  have e1 : h.task.acts = m.acts := by rw [r.task]
  have e2 : h.task.facts = m.facts := by rw [r.task]
  rw [act_eq, e2]
  by_cases c : m.acts.length = 12
  · rw [if_pos c, if_pos (show h.task.acts.length = 12 by rw [e1]; exact c)]
    exact ⟨r, rfl⟩
  · rw [if_neg c, if_neg (show ¬ h.task.acts.length = 12 by rw [e1]; exact c)]
    by_cases d : isAct m.facts l = true
    · rw [if_pos d, if_pos d]
      refine ⟨⟨?_, plan_more r.plan _, r.five, r.rep, r.ol⟩, ?_⟩
      · show ({ h.task with acts := h.task.acts ++ [actOf l] } : Pn.Task) = _
        rw [r.task]
      · show _ = out (Pn04.ok (h.task.acts.length : Nat))
        rw [e1]
        rfl
    · rw [if_neg d, if_neg d]
      exact ⟨r, rfl⟩
/-! a plan -/
theorem plan_far (t : Pn.Task) : ∀ (l : List Nat) (n s : Nat), t.plan s l = (Pn04.far t n s l).isNone
  | [], n, s => by
    show t.done s = (if t.done s = true then none else some n : Option Nat).isNone
    cases t.done s <;> rfl
  | k :: l, n, s => by
    have ih := plan_far t l (n + 1) ((t.act k).then_ s)
    show (match (if t.can s k = true then t.goes ((t.act k).then_ s) l else none) with
      | some u => t.done u
      | none => false) = (if t.can s k = true then Pn04.far t (n + 1) ((t.act k).then_ s) l else some n).isNone
    cases t.can s k with
    | true =>
      rw [if_pos rfl, if_pos rfl, ← ih]
      rfl
    | false => rfl
theorem plan_in (t : Pn.Task) : ∀ (l : List Nat) (s : Nat), t.plan s l = true → ∀ k ∈ l, k < t.acts.length
  | [], _, _, k, hk => by cases hk
  | j :: l, s, h, k, hk => by
    have e : t.plan s (j :: l) = (match (if t.can s j = true then t.goes ((t.act j).then_ s) l else none) with
      | some u => t.done u
      | none => false) := rfl
    rw [e] at h
    cases c : t.can s j with
    | false =>
      rw [c] at h
      cases h
    | true =>
      rw [c, if_pos rfl] at h
      rcases List.mem_cons.mp hk with q | q
      · rw [q]
        unfold Pn.Task.can at c
        rw [Bool.and_eq_true, decide_eq_true_iff] at c
        exact c.1
      · exact plan_in t l ((t.act j).then_ s) h k q
theorem acts_all (l : List Nat) : Pn04.acts l (List.range l.length) = l := by
  unfold Pn04.acts
  have := map_at (fun x : Nat => x) 0 l
  rw [← this]
  exact List.map_id _
theorem getD_map' {α β : Type} (f : α → β) (d : α) (e : β) (l : List α) (j : Nat) (hj : j < l.length) : (l.map f).getD j e = f (l.getD j d) := by
  rw [List.getD_eq_getElem?_getD, List.getD_eq_getElem?_getD, List.getElem?_map, List.getElem?_eq_getElem hj]
  rfl
theorem plan_of {m : HouseM} {t : Pn.Task} (e : t.acts = m.acts) {l : List Nat} (h : ∀ k ∈ l, k < m.acts.length) : Plan t l (stepsOf m l) := by
  refine ⟨List.length_map .., fun j hj => ?_, fun j hj => ?_⟩
  · rw [e]
    refine h _ ?_
    rw [List.getD_eq_getElem?_getD, List.getElem?_eq_getElem hj]
    exact List.getElem_mem hj
  · unfold stepsOf
    rw [getD_map' _ 0 _ _ _ hj]
    unfold Pn.Task.act
    rw [e]
    rfl
/-- both find the same of the orders that work -/
theorem found_eq {t : Pn.Task} {plan : List Nat} {steps : List Pn.Act} (h : Plan t plan steps) {f : Order → Order → Bool} {lt : List Nat → List Nat → Bool}
    (he : ∀ a b p q, a ∈ allOrders plan.length → b ∈ allOrders plan.length → Rep a p → Rep b q → lt a b = f p q)
    (ir : ∀ a, f a a = false) (tr : ∀ a b c, f a b = true → f b c = true → f a c = true)
    (tri : ∀ a b p q, a ∈ allOrders plan.length → b ∈ allOrders plan.length → Rep a p → Rep b q → f p q = true ∨ f q p = true ∨ p = q) :
    Found plan.length f lt ((Pn04.orders plan.length).filter (Pn04.good t plan)) (working steps t.start t.goal) := by
  refine best_eq (fun o ho => ?_) (fun p hp => ?_) he ir tr tri
  · obtain ⟨a, b⟩ := working_mem.mp ho
    rw [h.len] at a
    obtain ⟨p, hp, r⟩ := orders_of a
    exact ⟨a, p, List.mem_filter.mpr ⟨hp, (good_eq h r (allOrders_len a) (r.low (allOrders_low a))).mpr b⟩, r⟩
  · obtain ⟨a, b⟩ := List.mem_filter.mp hp
    obtain ⟨o, ho, r⟩ := orders_by a
    refine ⟨o, working_mem.mpr ⟨by rw [h.len]; exact ho, (good_eq h r (allOrders_len ho) (r.low (allOrders_low ho))).mp b⟩, r⟩
theorem loosened_eq {t : Pn.Task} {plan : List Nat} {steps : List Pn.Act} (h : Plan t plan steps) (hw : working steps t.start t.goal ≠ []) : ∃ p, Pn04.loosened t plan = some p ∧ Rep (loosened (working steps t.start t.goal)) p ∧ loosened (working steps t.start t.goal) ∈ allOrders plan.length := by
  have := found_eq h (f := Pn04.better) (lt := ltL) (fun a b p q ha hb ra rb => ltL_eq ra rb (by rw [allOrders_len ha, allOrders_len hb])) better_irrefl (fun _ _ _ => better_trans)
    fun a b p q ha hb ra rb => better_tri ra rb (by rw [allOrders_len ha, allOrders_len hb])
  unfold Pn04.loosened
  cases q : working steps t.start t.goal with
  | nil => exact absurd q hw
  | cons x r =>
    rw [q] at this
    exact this
theorem due_plan {m : HouseM} {h : Pn04.House} (r : Rel m h) (l : List Nat) : Due (plan m l) (Pn04.step h (.plan l)) := by
  show Due _ (if 5 < l.length then (h, Pn04.ok (-1)) else if h.task.plan h.task.start l = false then (h, Pn04.ok (-5)) else match Pn04.loosened h.task l with
    | none => (h, Pn04.ok (-5))
    | some o => ({ h with plan := l, order := o }, Pn04.ok (h.task.price l : Nat)))
  have e1 : h.task.acts = m.acts := by rw [r.task]
  have e2 : h.task.start = m.so := by rw [r.task]
  have e3 : h.task.goal = m.wanted := by rw [r.task]
  unfold plan
  by_cases c : 5 < l.length
  · rw [if_pos c, if_pos c]
    exact ⟨r, rfl⟩
  · rw [if_neg c, if_neg c]
    by_cases d : (l.all fun k => decide (k < m.acts.length)) = true
    · have hk : ∀ k ∈ l, k < m.acts.length := fun k hk => by simpa using List.all_eq_true.mp d k hk
      have P := plan_of e1 hk
      have hp : h.task.plan h.task.start l = !fails (stepsOf m l) m.so m.wanted (List.range l.length) := by
        rw [plan_far h.task l 0 h.task.start, ← e2, ← e3, ← far_ok P (fun j hj => List.mem_range.mp hj), acts_all]
      rw [if_pos d]
      cases q : fails (stepsOf m l) m.so m.wanted (List.range l.length) with
      | true =>
        rw [if_pos rfl, if_pos (by rw [hp, q]; rfl)]
        exact ⟨r, rfl⟩
      | false =>
        have hl : (stepsOf m l).length = l.length := List.length_map ..
        have hw := working_ne (so := m.so) (w := m.wanted) (steps := stepsOf m l) (by omega) (by rw [hl]; exact q)
        rw [← e2, ← e3] at hw
        obtain ⟨p, hp1, hp2, hp3⟩ := loosened_eq P hw
        rw [if_neg (by decide), if_neg (by rw [hp, q]; decide), hp1]
        rw [e2, e3] at hp2 hp3
        refine ⟨⟨r.task, P, by show l.length ≤ 5; omega, hp2, ?_⟩, ?_⟩
        · show (loosened (working (stepsOf m l) m.so m.wanted)).length = (stepsOf m l).length
          rw [hl]
          exact allOrders_len hp3
        · show [_] = [((h.task.price l : Nat) : Int)]
          have : h.task.price l = ((stepsOf m l).map fun a => a.cost).sum := by
            unfold Pn.Task.price stepsOf
            rw [pn_sum, List.map_map]
            congr 1
            refine List.map_congr_left fun k _ => ?_
            unfold Pn.Task.act
            rw [e1]
            rfl
          rw [this]
    · rw [if_neg d]
      have : h.task.plan h.task.start l = false := by
        cases q : h.task.plan h.task.start l with
        | false => rfl
        | true =>
          refine absurd (List.all_eq_true.mpr fun k hk => ?_) d
          have := plan_in h.task l _ q k hk
          rw [e1] at this
          exact decide_eq_true this
      rw [if_pos this]
      exact ⟨r, rfl⟩
theorem due_loosen {m : HouseM} {h : Pn04.House} (r : Rel m h) : Due (m, loosen m) (Pn04.step h .loosen) := by
  refine ⟨r, ?_⟩
  show _ = ((Pn04.many h.order : Nat) : Int) :: intsN (Pn04.told h.order)
  unfold loosen
  rw [r.rep.many, r.rep.told]
theorem due_rows {m : HouseM} {h : Pn04.House} (r : Rel m h) : Due (m, rows m) (Pn04.step h .rows) := by
  refine ⟨r, ?_⟩
  show _ = (((Pn04.rows h.order h.plan.length (List.range h.plan.length)).length : Nat) : Int) :: intsN ((Pn04.rows h.order h.plan.length (List.range h.plan.length)).flatMap fun x => x)
  unfold rows
  have : h.plan.length = m.order.length := by rw [r.ol, r.plan.len]
  rw [this, rows_eq r.rep]
theorem told_fails {m : HouseM} {h : Pn04.House} (r : Rel m h) {o : List Nat} {p : Order} (hr : Rep o p) (hl : o.length = m.steps.length) : failingTold m o = out (match Pn04.fails h.task h.plan p with
    | none => Pn04.ok 0
    | some x => ⟨1, x.2 :: x.1⟩) := by
  rw [fails_eq r.plan hr (by rw [hl, r.plan.len])]
  have e2 : h.task.start = m.so := by rw [r.task]
  have e3 : h.task.goal = m.wanted := by rw [r.task]
  rw [e2, e3]
  unfold failingTold
  cases firstFailing m.steps m.so m.wanted o with
  | nil => rfl
  | cons row l => rfl
theorem due_why {m : HouseM} {h : Pn04.House} (r : Rel m h) (i j : Nat) : Due (m, why m i j) (Pn04.step h (.why i j)) := by
  show Due _ (if Pn04.near h.order i j = false then (h, Pn04.ok (-2)) else (h, match Pn04.fails h.task h.plan (Pn04.drop h.order i j) with
    | none => Pn04.ok 0
    | some x => ⟨1, x.2 :: x.1⟩))
  rw [near_eq r.rep]
  unfold why
  cases q : isNear m.order i j with
  | false =>
    rw [if_neg (by decide), if_pos rfl]
    exact ⟨r, rfl⟩
  | true =>
    rw [if_pos rfl, if_neg (by decide)]
    refine ⟨r, told_fails r (drop_rep r.rep q) ?_⟩
    rw [List.length_set, r.ol]
theorem due_soonest {m : HouseM} {h : Pn04.House} (r : Rel m h) (l : List Nat) : Due (m, soonestTold m l) (Pn04.step h (.soonest l)) := by
  show Due _ (if l.length ≠ h.plan.length ∨ (l.any fun x => x == 0 || decide (1000 < x)) = true then (h, Pn04.ok (-1)) else (h, match Pn04.soonest h.task h.plan l with
    | none => Pn04.ok 0
    | some o => ⟨(Pn04.through o l : Nat), Pn04.ends_ o l ++ Pn04.told o⟩))
  have e2 : h.task.start = m.so := by rw [r.task]
  have e3 : h.task.goal = m.wanted := by rw [r.task]
  unfold soonestTold
  have hc : (l.length ≠ h.plan.length ∨ (l.any fun x => x == 0 || decide (1000 < x)) = true) ↔ ¬ (l.length = m.steps.length ∧ (l.all fun k => decide (1 ≤ k) && decide (k ≤ 1000)) = true) := by
    rw [r.plan.len, not_and]
    have e : (l.any fun x => x == 0 || decide (1000 < x)) = !(l.all fun k => decide (1 ≤ k) && decide (k ≤ 1000)) := by
      rw [List.not_all_eq_any_not]
      congr 1
      funext x
      rw [Bool.eq_iff_iff]
      simp only [Bool.or_eq_true, beq_iff_eq, decide_eq_true_iff, Bool.not_eq_true', Bool.and_eq_false_iff, decide_eq_false_iff_not]
      omega
    rw [e]
    cases (l.all fun k => decide (1 ≤ k) && decide (k ≤ 1000)) <;> simp
  by_cases c : l.length = m.steps.length ∧ (l.all fun k => decide (1 ≤ k) && decide (k ≤ 1000)) = true
  · rw [if_pos c, if_neg (fun q => hc.mp q c)]
    refine ⟨r, ?_⟩
    have := found_eq r.plan (f := Pn04.sooner l) (lt := ltS l) (fun a b p q ha hb ra rb => ltS_eq l ra rb (by rw [allOrders_len ha, allOrders_len hb]) (allOrders_low ha) (allOrders_low hb)) (sooner_irrefl l) (fun _ _ _ => sooner_trans)
      fun a b p q ha hb ra rb => by
        rw [sooner_iff, sooner_iff]
        rcases Nat.lt_trichotomy (Pn04.through p l) (Pn04.through q l) with x | x | x
        · exact .inl (.inl x)
        · rcases better_tri ra rb (by rw [allOrders_len ha, allOrders_len hb]) with y | y | y
          · exact .inl (.inr ⟨x, y⟩)
          · exact .inr (.inl (.inr ⟨x.symm, y⟩))
          · exact .inr (.inr y)
        · exact .inr (.inl (.inl x))
    rw [e2, e3] at this
    unfold Pn04.soonest
    cases q : working m.steps m.so m.wanted with
    | nil =>
      rw [q] at this
      have t : Pn04.best (Pn04.sooner l) ((Pn04.orders h.plan.length).filter (Pn04.good h.task h.plan)) = none := this
      rw [t]
      rfl
    | cons x s =>
      rw [q] at this
      obtain ⟨p, t, rp, hm⟩ := this
      rw [t]
      show (through (endsOf (minBy (ltS l) x s) l) : Int) :: intsN (endsOf (minBy (ltS l) x s) l ++ toldPairs (minBy (ltS l) x s)) = ((Pn04.through p l : Nat) : Int) :: intsN (Pn04.ends_ p l ++ Pn04.told p)
      rw [rp.through (allOrders_low hm), rp.ends (allOrders_low hm), rp.told]
  · rw [if_neg c, if_pos (hc.mpr c)]
    exact ⟨r, rfl⟩
theorem pairs_eq : ∀ l : List Nat, Pn04.pairs l = if l.length % 2 = 1 then none else some (twos l)
  | [] => rfl
  | [_] => rfl
  | a :: b :: r => by
    show (Pn04.pairs r).map (fun l => (a, b) :: l) = if (r.length + 2) % 2 = 1 then none else some ((a, b) :: twos r)
    rw [pairs_eq r]
    by_cases c : r.length % 2 = 1
    · rw [if_pos c, if_pos (by omega)]
      rfl
    · rw [if_neg c, if_neg (by omega)]
      rfl
theorem twos_in (n : Nat) : ∀ l : List Nat, l.length % 2 = 0 → ((twos l).any fun p => decide (n ≤ p.1) || decide (n ≤ p.2)) = !(l.all fun k => decide (k < n))
  | [], _ => rfl
  | [_], h => by cases h
  | a :: b :: r, h => by
    have ih := twos_in n r (by have : r.length + 2 = (a :: b :: r).length := rfl; omega)
    show ((decide (n ≤ a) || decide (n ≤ b)) || (twos r).any fun p => decide (n ≤ p.1) || decide (n ≤ p.2)) = !(decide (a < n) && (decide (b < n) && r.all fun k => decide (k < n)))
    rw [ih, Bool.not_and, Bool.not_and, Bool.or_assoc]
    have e : ∀ a : Nat, decide (n ≤ a) = !decide (a < n) := fun a => by
      rw [Bool.eq_iff_iff]
      simp
    rw [e, e]
theorem due_check {m : HouseM} {h : Pn04.House} (r : Rel m h) (l : List Nat) : Due (m, check m l) (Pn04.step h (.check l)) := by
  show Due _ (match Pn04.pairs l with
    | none => (h, Pn04.ok (-1))
    | some ps => if (ps.any fun p => decide (h.plan.length ≤ p.1) || decide (h.plan.length ≤ p.2)) = true ∨ ((List.range (Pn04.orderOf h.plan.length ps).length).any fun j => (befores (Pn04.orderOf h.plan.length ps) j).contains j) = true then (h, Pn04.ok (-1)) else (h, match Pn04.fails h.task h.plan (Pn04.orderOf h.plan.length ps) with
      | none => Pn04.ok 0
      | some x => ⟨1, x.2 :: x.1⟩))
  rw [pairs_eq]
  have hn : h.plan.length = m.steps.length := r.plan.len.symm
  rw [hn]
  unfold check
  by_cases c : l.length % 2 = 1
  · rw [if_pos c, if_pos (.inl c)]
    exact ⟨r, rfl⟩
  · rw [if_neg c]
    show Due _ (if ((twos l).any fun p => decide (m.steps.length ≤ p.1) || decide (m.steps.length ≤ p.2)) = true ∨ ((List.range (Pn04.orderOf m.steps.length (twos l)).length).any fun j => (befores (Pn04.orderOf m.steps.length (twos l)) j).contains j) = true then (h, Pn04.ok (-1)) else (h, match Pn04.fails h.task h.plan (Pn04.orderOf m.steps.length (twos l)) with
      | none => Pn04.ok 0
      | some x => ⟨1, x.2 :: x.1⟩))
    have hin := twos_in m.steps.length l (by omega)
    cases d : (l.all fun k => decide (k < m.steps.length)) with
    | false =>
      rw [d] at hin
      rw [if_pos (.inr rfl), if_pos (.inl hin)]
      exact ⟨r, rfl⟩
    | true =>
      rw [d] at hin
      have hps : ∀ p ∈ twos l, p.1 < m.steps.length ∧ p.2 < m.steps.length := fun p hp => by
        have := List.any_eq_false.mp hin p hp
        simpa using this
      have R := wab_rep hps
      have L : (wab (orderOf m.steps.length (twos l))).length = m.steps.length := by
        rw [← R.len]
        exact (orderOf_spec hps).1.1
      have e : ((List.range (Pn04.orderOf m.steps.length (twos l)).length).any fun j => (befores (Pn04.orderOf m.steps.length (twos l)) j).contains j) = (List.range m.steps.length).any fun j => ((wab (orderOf m.steps.length (twos l))).getD j 0).testBit j := by
        rw [R.len, L]
        congr 1
        funext j
        rw [Bool.eq_iff_iff, List.contains_eq_mem, decide_eq_true_iff, R.mem]
      rw [if_neg (by rintro (q | q); exact c q; cases q), e]
      cases q : (List.range m.steps.length).any fun j => ((wab (orderOf m.steps.length (twos l))).getD j 0).testBit j with
      | true =>
        rw [if_pos rfl, if_pos (.inr rfl)]
        exact ⟨r, rfl⟩
      | false =>
        rw [if_neg (by decide), if_neg (by rintro (z | z); · rw [hin] at z; cases z
                                           · cases z)]
        exact ⟨r, told_fails r R L⟩
/-- the statement's call -/
def callM (p : Nat) (told row : List Nat) : Pn04.Call := match p with
  | 0 => .begins (told.getD 0 0) (told.getD 1 0) (told.getD 2 0)
  | 1 => .act row
  | 2 => .plan row
  | 3 => .loosen
  | 4 => .rows
  | 5 => .why (told.getD 0 0) (told.getD 1 0)
  | 6 => .soonest row
  | _ => .check row
/-- **each call is answered as is due** -/
theorem due {m : HouseM} {h : Pn04.House} (r : Rel m h) (p : Nat) (told row : List Nat) : Due (answer m p told row) (Pn04.step h (callM p told row)) := by
  match p with
  | 0 => exact due_begins r _ _ _
  | 1 => exact due_act r _
  | 2 => exact due_plan r _
  | 3 => exact due_loosen r
  | 4 => exact due_rows r
  | 5 => exact due_why r _ _
  | 6 => exact due_soonest r _
  | _ + 7 => exact due_check r _
end Lp
end
section
set_option linter.all false
namespace Lp
/-! ### a line's calls -/
/-- a call: its number, its whole numbers, its row -/
abbrev DC := Nat × List Nat × List Nat
def numbersOf (p : Nat) : Nat := [3, 0, 0, 0, 0, 2, 0, 0].getD p 0
def withRow (p : Nat) : Bool := p == 1 || (p == 2 || (p == 6 || p == 7))
def encC (c : DC) : List Nat := c.1 :: (c.2.1 ++ if withRow c.1 = true then c.2.2.length :: c.2.2 else [])
structure ValidC (c : DC) : Prop where
  p : c.1 ≤ 7
  n : c.2.1.length = numbersOf c.1
  r : c.2.2.length ≤ 20
  z : withRow c.1 = false → c.2.2 = []
def runM : HouseM → List DC → List Int
  | _, [] => []
  | m, c :: cs => ((answer m c.1 c.2.1 c.2.2).2.length : Int) :: ((answer m c.1 c.2.1 c.2.2).2 ++ runM (answer m c.1 c.2.1 c.2.2).1 cs)
end Lp
end
section
set_option linter.all false
namespace Lp
/-! ### a line of numbers as calls -/
theorem ints_nats : ∀ {l : List Int}, (∀ z ∈ l, 0 ≤ z) → intsN (nats l) = l
  | [], _ => rfl
  | z :: l, h => by
    have h0 := h z List.mem_cons_self
    show ((z.toNat : Nat) : Int) :: intsN (nats l) = z :: l
    rw [ints_nats fun y hy => h y (List.mem_cons_of_mem _ hy), Int.toNat_of_nonneg h0]
theorem nats_ints (l : List Nat) : nats (intsN l) = l := by
  unfold nats intsN
  rw [List.map_map]
  refine (List.map_congr_left (g := fun x => x) fun n _ => ?_).trans (List.map_id _)
  show ((n : Nat) : Int).toNat = n
  exact Int.toNat_natCast n
theorem ints_app (a b : List Nat) : intsN (a ++ b) = intsN a ++ intsN b := List.map_append
theorem nats_len (l : List Int) : (nats l).length = l.length := List.length_map ..
/-- a call as the statement has it -/
def rawOf (c : DC) : List (List Int) := ((c.1 : Int) :: intsN c.2.1) :: if withRow c.1 = true then [intsN c.2.2] else []
theorem call_cons (z : Int) (r : List Int) : PyFlat.call PyPn04.shape (z :: r) = match PyPn04.shape z with
    | none => none
    | some (n, k) => if r.length < n then none else match PyFlat.rows k (r.drop n) with
      | none => none
      | some (xs, t) => some ((z :: r.take n) :: xs, t) := rfl
theorem one_plain {p : Nat} {n : Nat} {r : List Int} {c : List (List Int)} {t : List Int} (hs : PyPn04.shape (p : Int) = some (n, 0)) (hp : p ≤ 7) (hn : numbersOf p = n) (hw : withRow p = false)
    (h : PyFlat.call PyPn04.shape ((p : Int) :: r) = some (c, t)) (h0 : ∀ z ∈ r, 0 ≤ z) : ∃ d : DC, ValidC d ∧ c = rawOf d ∧ (p : Int) :: r = intsN (encC d) ++ t := by
  rw [call_cons, hs] at h
  by_cases q : r.length < n
  · have : (none : Option (List (List Int) × List Int)) = some (c, t) := by
      rw [← h]
      show _ = if r.length < n then none else _
      rw [if_pos q]
    cases this
  · have e : some (((p : Int) :: r.take n) :: [], r.drop n) = some (c, t) := by
      rw [← h]
      show _ = if r.length < n then none else _
      rw [if_neg q]
      rfl
    cases e
    have hz : ∀ z ∈ r.take n, 0 ≤ z := fun z hz => h0 z (List.mem_of_mem_take hz)
    refine ⟨(p, nats (r.take n), []), ⟨hp, ?_, Nat.zero_le _, fun _ => rfl⟩, ?_, ?_⟩
    · show (nats (r.take n)).length = numbersOf p
      rw [nats_len, List.length_take, hn]
      omega
    · unfold rawOf
      rw [if_neg (by show ¬ withRow p = true; rw [hw]; decide)]
      show [_ :: _] = [_ :: intsN (nats (r.take n))]
      rw [ints_nats hz]
    · unfold encC
      rw [if_neg (by show ¬ withRow p = true; rw [hw]; decide), List.append_nil]
      show _ = ((p : Nat) : Int) :: (intsN (nats (r.take n)) ++ r.drop n)
      rw [ints_nats hz, List.take_append_drop]
theorem one_row {p : Nat} {lo hi : Int} {least most : Nat} {r : List Int} {c : List (List Int)} {t : List Int} (hs : PyPn04.shape (p : Int) = some (0, 1)) (hp : p ≤ 7) (hn : numbersOf p = 0) (hw : withRow p = true)
    (hb : (PyPn04.bound (p : Int)).2 = [(lo, hi, least, most)]) (hm : most ≤ 20) (hin : PyInside.call PyPn04.bound c = true)
    (h : PyFlat.call PyPn04.shape ((p : Int) :: r) = some (c, t)) (h0 : ∀ z ∈ r, 0 ≤ z) : ∃ d : DC, ValidC d ∧ c = rawOf d ∧ (p : Int) :: r = intsN (encC d) ++ t := by
  rw [call_cons, hs] at h
  have e : (match PyFlat.rows 1 r with
    | none => none
    | some (xs, t) => some (((p : Int) :: []) :: xs, t)) = some (c, t) := by
    rw [← h]
    show _ = if r.length < 0 then none else _
    rw [if_neg (Nat.not_lt_zero _)]
    rfl
  match r, h0, e with
  | [], _, e => cases e
  | n :: r, h0, e =>
    have e2 : (match (if 0 ≤ n ∧ n.toNat ≤ r.length then some (r.take n.toNat, r.drop n.toNat) else none : Option (List Int × List Int)) with
      | none => none
      | some (x, s) => some (((p : Int) :: []) :: [x], s)) = some (c, t) := by
      rw [← e]
      unfold PyFlat.rows PyFlat.row
      by_cases q : 0 ≤ n ∧ n.toNat ≤ r.length
      · simp only [if_pos q]
        rfl
      · simp only [if_neg q]
    by_cases q : 0 ≤ n ∧ n.toNat ≤ r.length
    · rw [if_pos q] at e2
      cases e2
      have hz : ∀ z ∈ r.take n.toNat, 0 ≤ z := fun z hz => h0 z (List.mem_cons_of_mem _ (List.mem_of_mem_take hz))
      have hlen : (r.take n.toNat).length = n.toNat := by rw [List.length_take]; omega
      have hmost : (r.take n.toNat).length ≤ most := by
        have x : (PyInside.each (PyPn04.bound (p : Int)).1 [] && PyInside.lists (PyPn04.bound (p : Int)).2 [r.take n.toNat]) = true := hin
        rw [hb, Bool.and_eq_true] at x
        have y : (decide (least ≤ (r.take n.toNat).length) && decide ((r.take n.toNat).length ≤ most) && (r.take n.toNat).all (PyInside.within lo hi) && true) = true := x.2
        rw [Bool.and_eq_true, Bool.and_eq_true, Bool.and_eq_true, decide_eq_true_iff, decide_eq_true_iff] at y
        exact y.1.1.2
      refine ⟨(p, [], nats (r.take n.toNat)), ⟨hp, hn.symm, ?_, fun z => ?_⟩, ?_, ?_⟩
      · show (nats (r.take n.toNat)).length ≤ 20
        rw [nats_len]
        omega
      · rw [show withRow p = true from hw] at z
        cases z
      · unfold rawOf
        rw [if_pos (show withRow p = true from hw)]
        show [[_], _] = [[_], intsN (nats (r.take n.toNat))]
        rw [ints_nats hz]
      · unfold encC
        rw [if_pos (show withRow p = true from hw)]
        show _ = ((p : Nat) : Int) :: (((nats (r.take n.toNat)).length : Nat) : Int) :: (intsN (nats (r.take n.toNat)) ++ r.drop n.toNat)
        rw [ints_nats hz, nats_len, hlen, Int.toNat_of_nonneg q.1, List.take_append_drop]
    · rw [if_neg q] at e2
      cases e2
theorem one_call {z : Int} {r : List Int} {c : List (List Int)} {t : List Int} (h : PyFlat.call PyPn04.shape (z :: r) = some (c, t)) (h0 : ∀ z ∈ r, 0 ≤ z) (hin : PyInside.call PyPn04.bound c = true) :
    ∃ d : DC, ValidC d ∧ c = rawOf d ∧ z :: r = intsN (encC d) ++ t := by
  by_cases e0 : z = 0
  · subst e0; exact one_plain (p := 0) rfl (by decide) rfl rfl h h0
  by_cases e1 : z = 1
  · subst e1; exact one_row (p := 1) rfl (by decide) rfl rfl rfl (by decide) hin h h0
  by_cases e2 : z = 2
  · subst e2; exact one_row (p := 2) rfl (by decide) rfl rfl rfl (by decide) hin h h0
  by_cases e3 : z = 3
  · subst e3; exact one_plain (p := 3) rfl (by decide) rfl rfl h h0
  by_cases e4 : z = 4
  · subst e4; exact one_plain (p := 4) rfl (by decide) rfl rfl h h0
  by_cases e5 : z = 5
  · subst e5; exact one_plain (p := 5) rfl (by decide) rfl rfl h h0
  by_cases e6 : z = 6
  · subst e6; exact one_row (p := 6) rfl (by decide) rfl rfl rfl (by decide) hin h h0
  by_cases e7 : z = 7
  · subst e7; exact one_row (p := 7) rfl (by decide) rfl rfl rfl (by decide) hin h h0
  have : PyPn04.shape z = none := by
    unfold PyPn04.shape
    rw [if_neg e0, if_neg e1, if_neg e2, if_neg e3, if_neg e4, if_neg e5, if_neg e6, if_neg e7]
  rw [call_cons, this] at h
  cases h
theorem calls_of : ∀ (f : Nat) (l : List Int) (raw : List (List (List Int))), PyFlat.calls PyPn04.shape f l = some raw → (∀ z ∈ l, 0 ≤ z) → PyInside.calls PyPn04.bound raw = true →
    ∃ cs : List DC, l = intsN (cs.flatMap encC) ∧ (∀ c ∈ cs, ValidC c) ∧ raw = cs.map rawOf
  | f, [], raw, h, _, _ => by
    have e : some [] = some raw := by
      rw [← h]
      cases f <;> rfl
    cases e
    exact ⟨[], rfl, fun c hc => absurd hc List.not_mem_nil, rfl⟩
  | 0, z :: r, raw, h, _, _ => by cases h
  | f + 1, z :: r, raw, h, h0, hin => by
    have e : (match PyFlat.call PyPn04.shape (z :: r) with
      | none => none
      | some (c, t) => match PyFlat.calls PyPn04.shape f t with
        | none => none
        | some cs => some (c :: cs)) = some raw := h
    cases q : PyFlat.call PyPn04.shape (z :: r) with
    | none => rw [q] at e; cases e
    | some ct =>
      obtain ⟨c, t⟩ := ct
      rw [q] at e
      cases q2 : PyFlat.calls PyPn04.shape f t with
      | none =>
        have : (match PyFlat.calls PyPn04.shape f t with
          | none => none
          | some cs => some (c :: cs)) = some raw := e
        rw [q2] at this
        cases this
      | some rest =>
        have this : (match PyFlat.calls PyPn04.shape f t with
          | none => none
          | some cs => some (c :: cs)) = some raw := e
        rw [q2] at this
        cases this
        have hin' : (PyInside.call PyPn04.bound c && PyInside.calls PyPn04.bound rest) = true := hin
        rw [Bool.and_eq_true] at hin'
        obtain ⟨d, vd, hc, hl⟩ := one_call q (fun z hz => h0 z (List.mem_cons_of_mem _ hz)) hin'.1
        have ht : ∀ y ∈ t, 0 ≤ y := fun y hy => h0 y (by rw [hl]; exact List.mem_append_right _ hy)
        obtain ⟨cs, h1, h2, h3⟩ := calls_of f t rest q2 ht hin'.2
        refine ⟨d :: cs, ?_, fun x hx => ?_, ?_⟩
        · rw [hl, List.flatMap_cons, ints_app, ← h1]
        · rcases List.mem_cons.mp hx with y | y
          · rw [y]; exact vd
          · exact h2 x y
        · rw [hc, h3]
          rfl
/-! the answers -/
theorem len0 {l : List Nat} (h : l.length = 0) : l = [] := List.length_eq_zero_iff.mp h
theorem step_of (s : Pn04.House) {c : DC} (v : ValidC c) : Pn04Neutral.step s (PyPn04.whole (rawOf c)) = ((Pn04.step s (callM c.1 c.2.1 c.2.2)).1, out (Pn04.step s (callM c.1 c.2.1 c.2.2)).2) := by
  obtain ⟨p, told, row⟩ := c
  have hp : p ≤ 7 := v.p
  have hn : told.length = numbersOf p := v.n
  have key : ∀ x, Pn04Neutral.callOf (PyPn04.whole (rawOf (p, told, row))) = some x → x = callM p told row → Pn04Neutral.step s (PyPn04.whole (rawOf (p, told, row))) = ((Pn04.step s (callM p told row)).1, out (Pn04.step s (callM p told row)).2) := fun x h e => by
    unfold Pn04Neutral.step
    rw [h, e]
    rfl
  have rowE : ∀ l : List Nat, Pn04Neutral.nats (intsN l) = l := fun l => nats_ints l
  match p, hp, hn with
  | 0, _, hn =>
    match told, hn with
    | [a, b, c], _ => exact key (.begins ((a : Nat) : Int).toNat ((b : Nat) : Int).toNat ((c : Nat) : Int).toNat) rfl (by rw [Int.toNat_natCast, Int.toNat_natCast, Int.toNat_natCast]; rfl)
  | 1, _, hn =>
    have e := len0 hn
    subst e
    exact key (.act (Pn04Neutral.nats (intsN row))) rfl (by rw [rowE]; rfl)
  | 2, _, hn =>
    have e := len0 hn
    subst e
    exact key (.plan (Pn04Neutral.nats (intsN row))) rfl (by rw [rowE]; rfl)
  | 3, _, hn =>
    have e := len0 hn
    subst e
    exact key .loosen rfl rfl
  | 4, _, hn =>
    have e := len0 hn
    subst e
    exact key .rows rfl rfl
  | 5, _, hn =>
    match told, hn with
    | [a, b], _ => exact key (.why ((a : Nat) : Int).toNat ((b : Nat) : Int).toNat) rfl (by rw [Int.toNat_natCast, Int.toNat_natCast]; rfl)
  | 6, _, hn =>
    have e := len0 hn
    subst e
    exact key (.soonest (Pn04Neutral.nats (intsN row))) rfl (by rw [rowE]; rfl)
  | 7, _, hn =>
    have e := len0 hn
    subst e
    exact key (.check (Pn04Neutral.nats (intsN row))) rfl (by rw [rowE]; rfl)
  | p + 8, hp, _ => omega
theorem played_eq : ∀ (cs : List DC) (m : HouseM) (s : Pn04.House), Rel m s → (∀ c ∈ cs, ValidC c) → PyFlat.told (PyFlat.played Pn04Neutral.step s ((cs.map rawOf).map PyPn04.whole)) = runM m cs
  | [], m, s, _, _ => rfl
  | c :: cs, m, s, r, h => by
    have d := due r c.1 c.2.1 c.2.2
    have e := step_of s (h c List.mem_cons_self)
    show (((Pn04Neutral.step s (PyPn04.whole (rawOf c))).2.length : Nat) : Int) :: ((Pn04Neutral.step s (PyPn04.whole (rawOf c))).2 ++ PyFlat.told (PyFlat.played Pn04Neutral.step (Pn04Neutral.step s (PyPn04.whole (rawOf c))).1 ((cs.map rawOf).map PyPn04.whole))) = _
    rw [e]
    show (((out (Pn04.step s (callM c.1 c.2.1 c.2.2)).2).length : Nat) : Int) :: (out (Pn04.step s (callM c.1 c.2.1 c.2.2)).2 ++ PyFlat.told (PyFlat.played Pn04Neutral.step (Pn04.step s (callM c.1 c.2.1 c.2.2)).1 ((cs.map rawOf).map PyPn04.whole))) = ((answer m c.1 c.2.1 c.2.2).2.length : Int) :: ((answer m c.1 c.2.1 c.2.2).2 ++ runM (answer m c.1 c.2.1 c.2.2).1 cs)
    rw [played_eq cs _ _ d.1 fun x hx => h x (List.mem_cons_of_mem _ hx), d.2]
/-- **what is asked, as calls; what is due, as the house's answers** -/
theorem asked_of {ns : List Int} (h : PyPn04.answers_asked ns = true) (h0 : ∀ z ∈ ns, 0 ≤ z) : ∃ cs : List DC, ns = intsN (cs.flatMap encC) ∧ (∀ c ∈ cs, ValidC c) ∧ PyPn04.answers ns = runM (HouseM.new 1 0 0) cs ∧ (runM (HouseM.new 1 0 0) cs).length ≤ 10000000 := by
  unfold PyPn04.answers_asked at h
  cases q : PyFlat.calls PyPn04.shape ns.length ns with
  | none =>
    rw [q] at h
    cases h
  | some raw =>
    rw [q] at h
    have h' : (!raw.isEmpty && PyFlat.atMost 60 raw && PyInside.calls PyPn04.bound raw && Pn04Neutral.asked (raw.map PyPn04.whole) && PyFlat.short 10000000 (PyPn04.answers ns)) = true := h
    rw [Bool.and_eq_true, Bool.and_eq_true, Bool.and_eq_true, Bool.and_eq_true] at h'
    obtain ⟨cs, h1, h2, h3⟩ := calls_of _ _ _ q h0 h'.1.1.2
    have e : PyPn04.answers ns = runM (HouseM.new 1 0 0) cs := by
      unfold PyPn04.answers PyPn04.calls
      rw [q]
      show PyFlat.told (PyFlat.played Pn04Neutral.step Pn04.init (raw.map PyPn04.whole)) = _
      rw [h3]
      exact played_eq cs _ _ (rel_new 1 0 0) h2
    refine ⟨cs, h1, h2, e, ?_⟩
    have := h'.2
    unfold PyFlat.short at this
    rw [decide_eq_true_iff, e] at this
    exact this
end Lp
end
section
set_option Elab.async false
set_option linter.all false
set_option maxRecDepth 100000
set_option maxHeartbeats 2000000
/-! The layer's words for this program: what is known (Hs) beside the heap (H). -/
namespace Lp
open PySem PySem.Spec PyProof.Rows L2 Evl
/-- two lists, item by item -/
inductive All2 {α β : Type} (R : α → β → Prop) : List α → List β → Prop
  | nil : All2 R [] []
  | cons {a : α} {b : β} {as : List α} {bs : List β} : R a b → All2 R as bs → All2 R (a :: as) (b :: bs)
section
variable {α β : Type} {R S : α → β → Prop}
theorem All2.length {as : List α} {bs : List β} (h : All2 R as bs) : as.length = bs.length := by
  induction h with
  | nil => rfl
  | cons _ _ ih => simp [ih]
theorem All2.mono {as : List α} {bs : List β} (h : All2 R as bs) (f : ∀ a b, R a b → S a b) : All2 S as bs := by
  induction h with
  | nil => exact .nil
  | cons r _ ih => exact .cons (f _ _ r) ih
theorem All2.append {as as' : List α} {bs bs' : List β} (h : All2 R as bs) (h' : All2 R as' bs') : All2 R (as ++ as') (bs ++ bs') := by
  induction h with
  | nil => exact h'
  | cons r _ ih => exact .cons r ih
theorem All2.snoc {as : List α} {bs : List β} {a : α} {b : β} (h : All2 R as bs) (r : R a b) : All2 R (as ++ [a]) (bs ++ [b]) := h.append (.cons r .nil)
theorem All2.get {as : List α} {bs : List β} (h : All2 R as bs) : ∀ {i : Nat} {b : β}, bs[i]? = some b → ∃ a, as[i]? = some a ∧ R a b := by
  induction h with
  | nil => intro i b e; simp at e
  | cons r _ ih =>
    intro i b e
    cases i with
    | zero => simp at e; subst e; exact ⟨_, rfl, r⟩
    | succ i => simpa using ih (by simpa using e)
theorem All2.get' {as : List α} {bs : List β} (h : All2 R as bs) : ∀ {i : Nat} {a : α}, as[i]? = some a → ∃ b, bs[i]? = some b ∧ R a b := by
  induction h with
  | nil => intro i b e; simp at e
  | cons r _ ih =>
    intro i b e
    cases i with
    | zero => simp at e; subst e; exact ⟨_, rfl, r⟩
    | succ i => simpa using ih (by simpa using e)
theorem All2.of_map (f : α → β) (h : ∀ a, R a (f a)) : ∀ l : List α, All2 R l (l.map f)
  | [] => .nil
  | a :: l => .cons (h a) (All2.of_map f h l)
theorem All2.eq_map {f : α → β} {as : List α} {bs : List β} (h : All2 (fun a b => b = f a) as bs) : bs = as.map f := by
  induction h with
  | nil => rfl
  | cons r _ ih => simp [r, ih]
theorem All2.take {as : List α} {bs : List β} (h : All2 R as bs) : ∀ n : Nat, All2 R (as.take n) (bs.take n) := by
  induction h with
  | nil => intro n; simp; exact .nil
  | cons r _ ih =>
    intro n
    cases n with
    | zero => simp; exact .nil
    | succ n => simp; exact .cons r (ih n)
end
theorem take_more {α : Type} : ∀ {l : List α} {i : Nat} {x : α}, l[i]? = some x → l.take (i + 1) = l.take i ++ [x]
  | [], i, x, h => by simp at h
  | a :: l, 0, x, h => by
    have e : a = x := Option.some.inj h
    subst e
    rfl
  | a :: l, i + 1, x, h => by
    have ih := take_more (l := l) (i := i) (x := x) h
    show a :: l.take (i + 1) = a :: l.take i ++ [x]
    rw [ih]
    rfl

/-! ### what is known beside the heap -/
structure Sep (Hs H Hs' H' : Hp) : Prop where
  k : Ex Hs Hs'
  h : Ex H H'
  s : Ex Hs' H'
  j : ∀ b o, H b = some o → Hs b = none → Hs' b = none
section
variable {Hs H Hs' H' H1s H1 H2s H2 : Hp} {p : Addr} {o : HO}
theorem Sep.refl (e : Ex Hs H) : Sep Hs H Hs H := ⟨Ex.refl _, Ex.refl _, e, fun _ _ _ n => n⟩
theorem Sep.trans (a : Sep Hs H H1s H1) (b : Sep H1s H1 H2s H2) : Sep Hs H H2s H2 := ⟨a.k.trans b.k, a.h.trans b.h, b.s, fun c o hc n => b.j c o (a.h c o hc) (a.j c o hc n)⟩
theorem Sep.ext (a : Sep Hs H Hs' H1) (e : Ex H1 H2) : Sep Hs H Hs' H2 := ⟨a.k, a.h.trans e, a.s.trans e, a.j⟩
theorem Sep.of (e : Ex Hs H) (e2 : Ex H H2) : Sep Hs H Hs H2 := (Sep.refl e).ext e2
theorem Sep.newIn (e : Ex Hs H) (hp : H p = none) (e2 : Ex H H2) (h2 : H2 p = some o) : Sep Hs H (upd Hs p o) H2 := by
  have n : Hs p = none := fresh_back e hp
  refine ⟨Ex.new n, e2, fun b u hb => ?_, fun b u hb hn => ?_⟩
  · by_cases hbp : b = p
    · subst hbp
      rw [upd_same] at hb
      cases hb
      exact h2
    · rw [upd_ne hbp] at hb
      exact e2 b u (e b u hb)
  · have hbp : b ≠ p := ne_of_none hb hp
    rw [upd_ne hbp]
    exact hn
theorem Sep.new (e : Ex Hs H) (hp : H p = none) : Sep Hs H (upd Hs p o) (upd H p o) := Sep.newIn e hp (Ex.new hp) upd_same
/-- a new object that is known to us alone: not among what is known -/
theorem Sep.hide (a : Sep Hs H Hs' H1) (hp : H1 p = none) : Sep Hs H Hs' (upd H1 p o) := a.ext (Ex.new hp)
/-- .. changed -/
theorem Sep.mut (a : Sep Hs H Hs' H1) (h0 : H p = none) (hs : Hs' p = none) : Sep Hs H Hs' (upd H1 p o) := ⟨a.k, a.h.mut h0, a.s.mut hs, a.j⟩
/-- .. made known -/
theorem Sep.show (a : Sep Hs H Hs' H1) (h0 : H p = none) (hs : Hs' p = none) (h1 : H1 p = some o) : Sep Hs H (upd Hs' p o) H1 := by
  refine ⟨a.k.trans (Ex.new hs), a.h, fun b u hb => ?_, fun b u hb hn => ?_⟩
  · by_cases hbp : b = p
    · subst hbp
      rw [upd_same] at hb
      cases hb
      exact h1
    · rw [upd_ne hbp] at hb
      exact a.s b u hb
  · rw [upd_ne (ne_of_none hb h0)]
    exact a.j b u hb hn
theorem Sep.out (a : Sep Hs H Hs' H1) (h0 : H p = some o) (hs : Hs p = none) : Hs' p = none := a.j p o h0 hs
theorem Sep.ex0 (a : Sep Hs H Hs' H1) : Ex Hs H1 := a.k.trans a.s
end
/-- a reading, whatever else stands in the heap: it gives a P, by what is known then -/
def W {α : Type} (m : Hp → (α → Hp → Prop) → Prop) (Hs : Hp) (P : α → Hp → Prop) : Prop :=
  ∀ H, Ex Hs H → ∀ R : α → Hp → Prop, (∀ v Hs' H', Sep Hs H Hs' H' → P v Hs' → R v H') → m H R
section
variable {α β : Type} {m : Hp → (α → Hp → Prop) → Prop} {k : α → Hp → (β → Hp → Prop) → Prop} {Hs H Hs' : Hp} {P P' : α → Hp → Prop} {Q : β → Hp → Prop}
theorem W.bind (h : W m Hs P) (hk : ∀ x Hs1, Ex Hs Hs1 → P x Hs1 → W (k x) Hs1 Q) : W (fun H R => m H fun x H1 => k x H1 R) Hs Q := fun H e R q =>
  h H e _ fun x Hs1 H1 s p => hk x Hs1 s.k p H1 s.s R fun y Hs2 H2 s2 p2 => q y Hs2 H2 (s.trans s2) p2
theorem W.ret {v : α} (p : P v Hs) : W (fun H R => R v H) Hs P := fun H e R q => q v Hs H (Sep.refl e) p
theorem W.imp (h : W m Hs P) (f : ∀ v H, Ex Hs H → P v H → P' v H) : W m Hs P' := fun H e R q => h H e R fun v Hs' H' s p => q v Hs' H' s (f v Hs' s.k p)
theorem W.up (h : W m Hs P) (e : Ex Hs Hs') (hm : ∀ v H H', Ex H H' → P v H → P v H') : W m Hs' P := fun H e' R q => h H (e.trans e') R fun v H1s H1 s p => by
  let U : Hp := fun b => match Hs' b with
    | some o => some o
    | none => H1s b
  have eU1 : ∀ b o, Hs' b = some o → U b = some o := fun b o hb => by show (match Hs' b with | some o => some o | none => H1s b) = some o; rw [hb]
  have eU2 : ∀ b, Hs' b = none → U b = H1s b := fun b hb => by show (match Hs' b with | some o => some o | none => H1s b) = H1s b; rw [hb]
  have k2 : Ex H1s U := fun b o hb => by
    cases q' : Hs' b with
    | none => rw [eU2 b q']; exact hb
    | some u =>
      rw [eU1 b u q']
      have h1 := s.s b o hb
      have h2 := s.h b u (e' b u q')
      rw [h1] at h2
      exact h2.symm
  refine q v U H1 ⟨eU1, s.h, fun b o hb => ?_, fun b o hb hn => ?_⟩ (hm v _ _ k2 p)
  · cases q' : Hs' b with
    | none =>
      rw [eU2 b q'] at hb
      exact s.s b o hb
    | some u =>
      rw [eU1 b u q'] at hb
      cases hb
      exact s.h b _ (e' b _ q')
  · rw [eU2 b hn]
    cases q' : Hs b with
    | none => exact s.j b o hb q'
    | some u =>
      have := e b u q'
      rw [hn] at this
      cases this
end
section
variable {σ : L2.St} {Hs H : Hp} {te ta tb : TE} {t : TT} {v x y : V} {P Q : V → Hp → Prop} {K : PySem.W.Frag}
/-! from and to the words of Evl -/
theorem w_ev (h : Ev te σ Hs v) (p : P v Hs) : W (te σ) Hs P := fun H e R q => h H e R fun H2 e2 => q v Hs H2 (Sep.of e e2) p
theorem w_evL {xs : List V} (h : EvL te σ Hs xs) (k : ∀ p Hs1, Ex Hs Hs1 → Hs p = none → Hs1 p = some (.lst xs) → P (.ref p) Hs1) : W (te σ) Hs P := fun H e R q =>
  h H e R fun p H2 hp e2 h2 => q (.ref p) _ H2 (Sep.newIn e hp e2 h2) (k p _ (Ex.new (fresh_back e hp)) (fresh_back e hp) upd_same)
theorem w_evU {xs : List V} (h : EvU te σ Hs xs) (k : ∀ p Hs1, Ex Hs Hs1 → Hs p = none → Hs1 p = some (.tup xs) → P (.ref p) Hs1) : W (te σ) Hs P := fun H e R q =>
  h H e R fun p H2 hp e2 h2 => q (.ref p) _ H2 (Sep.newIn e hp e2 h2) (k p _ (Ex.new (fresh_back e hp)) (fresh_back e hp) upd_same)
theorem ev_w (h : W (te σ) Hs fun u _ => u = v) : Ev te σ Hs v := fun H e R q => h H e R fun u Hs' H' s p => by
  subst p
  exact q H' s.h
theorem et_w {b : Bool} (h : W (t σ) Hs fun c _ => c = b) : EvT t σ Hs b := fun H e R q => h H e R fun u Hs' H' s p => by
  subst p
  exact q H' s.h
theorem fresh_sep {H' Hs' : Hp} {p : Addr} {o : HO} (s : Sep Hs H Hs' H') (n : Hs p = none) (h : Hs' p = some o) : H p = none := by
  cases q : H p with
  | none => rfl
  | some u =>
    have := s.j p u q n
    rw [h] at this
    cases this
theorem el_w {xs : List V} (h : W (te σ) Hs fun u H' => ∃ p, u = .ref p ∧ Hs p = none ∧ H' p = some (.lst xs)) : EvL te σ Hs xs := fun H e R q => h H e R fun u Hs' H' s ⟨p, ep, n, hp⟩ => by
  subst ep
  exact q p H' (fresh_sep s n hp) s.h (s.s p _ hp)
/-! readings in W -/
theorem w_op {r : R2} (ha : W (ta σ) Hs P) (hb : ∀ x Hs1, Ex Hs Hs1 → P x Hs1 → W (fun H R => tb σ H fun y H1 => r x y H1 R) Hs1 Q) : W (tOp r ta tb σ) Hs Q := W.bind (k := fun x H R => tb σ H fun y H1 => r x y H1 R) ha hb
theorem w_op2 {r : R2} {P' : V → Hp → Prop} (hb : W (tb σ) Hs P') (hr : ∀ y Hs1, Ex Hs Hs1 → P' y Hs1 → W (fun H R => r x y H R) Hs1 Q) : W (fun H R => tb σ H fun y H1 => r x y H1 R) Hs Q := W.bind (k := fun y H R => r x y H R) hb hr
theorem w_val {r : (V → Hp → Prop) → Hp → Prop} : True := trivial
/-! arguments -/
variable {tr : TA} {PA : List V → Hp → Prop}
theorem wa_nil (p : PA [] Hs) : W (tNil σ) Hs PA := W.ret p
theorem wa_cons (h : W (ta σ) Hs P) (hr : ∀ x Hs1, Ex Hs Hs1 → P x Hs1 → W (tr σ) Hs1 fun vs H => PA (x :: vs) H) : W (tCons ta tr σ) Hs PA := fun H e R q =>
  h H e _ fun x Hs1 H1 s p => hr x Hs1 s.k p H1 s.s _ fun vs Hs2 H2 s2 p2 => q (x :: vs) Hs2 H2 (s.trans s2) p2
theorem wa_ea {vs : List V} (h : EvA tr σ Hs vs) (p : PA vs Hs) : W (tr σ) Hs PA := fun H e R q => h H e R fun H2 e2 => q vs Hs H2 (Sep.of e e2) p
theorem w_cb {r : List V → Hp → VK → Prop} (h : W (tr σ) Hs PA) (hr : ∀ vs Hs1, Ex Hs Hs1 → PA vs Hs1 → W (fun H R => r vs H R) Hs1 P) : W (tCB r tr σ) Hs P := W.bind (k := fun vs H R => r vs H R) h hr
theorem w_call {sp : Sp} {dvs : List V} {E : XK} (h : W (tr σ) Hs PA) (hr : ∀ vs Hs1, Ex Hs Hs1 → PA vs Hs1 → W (fun H R => sp (vs ++ dvs) H R E) Hs1 P) : W (tCall sp dvs E tr σ) Hs P := W.bind (k := fun vs H R => sp (vs ++ dvs) H R E) h hr
/-- a new list, a new tuple of what the items are -/
theorem w_lst (h : W (tr σ) Hs PA) (hz : ∀ vs H, PA vs H → vs.length ≤ 100000) (k : ∀ vs Hs1 p Hs2, Ex Hs Hs1 → PA vs Hs1 → Ex Hs1 Hs2 → Hs p = none → Hs2 p = some (.lst vs) → P (.ref p) Hs2) : W (tLst tr σ) Hs P := fun H e R q =>
  h H e _ fun vs Hs1 H1 s pv => ⟨sz_of (hz vs _ pv), fun p hp => q (.ref p) _ _ (s.trans (Sep.new s.s hp)) (k vs Hs1 p _ s.k pv (Ex.new (fresh_back s.s hp)) (fresh_back s.ex0 hp) upd_same)⟩
theorem w_tup (h : W (tr σ) Hs PA) (hz : ∀ vs H, PA vs H → vs.length ≤ 100000) (k : ∀ vs Hs1 p Hs2, Ex Hs Hs1 → PA vs Hs1 → Ex Hs1 Hs2 → Hs p = none → Hs2 p = some (.tup vs) → P (.ref p) Hs2) : W (tTup tr σ) Hs P := fun H e R q =>
  h H e _ fun vs Hs1 H1 s pv => ⟨sz_of (hz vs _ pv), fun p hp => q (.ref p) _ _ (s.trans (Sep.new s.s hp)) (k vs Hs1 p _ s.k pv (Ex.new (fresh_back s.s hp)) (fresh_back s.ex0 hp) upd_same)⟩
/-! statements: from what is known, the heap -/
variable {D : Ends} {tu tw : TS}
theorem ws_asg {i : Nat} (e : Ex Hs H) (h : W (te σ) Hs P) (k : ∀ v Hs' H', Sep Hs H Hs' H' → P v Hs' → D.nx (σ.set i (some v)) H') : tAsg te (gName i) D σ H := h H e _ k
theorem ws_ret (e : Ex Hs H) (h : W (te σ) Hs P) (k : ∀ v Hs' H', Sep Hs H Hs' H' → P v Hs' → D.rt v H') : tRet te D σ H := h H e _ k
theorem ws_drop (e : Ex Hs H) (h : W (te σ) Hs P) (k : ∀ v Hs' H', Sep Hs H Hs' H' → P v Hs' → D.nx σ H') : tDrop te D σ H := h H e _ k
theorem wq_asg {tz : TS} {i : Nat} (e : Ex Hs H) (h : W (te σ) Hs P) (k : ∀ v Hs' H', Sep Hs H Hs' H' → P v Hs' → tz D (σ.set i (some v)) H') : tSeq (tAsg te (gName i)) tz D σ H := h H e _ k
theorem wq_drop {tz : TS} (e : Ex Hs H) (h : W (te σ) Hs P) (k : ∀ v Hs' H', Sep Hs H Hs' H' → P v Hs' → tz D σ H') : tSeq (tDrop te) tz D σ H := h H e _ k
theorem ws_if {b : Bool} (e : Ex Hs H) (h : EvT t σ Hs b) (h1 : b = true → ∀ H1, Ex H H1 → tu D σ H1) (h2 : b = false → ∀ H1, Ex H H1 → tw D σ H1) : tIfS t tu tw D σ H := s_if (h.mono e) h1 h2
end
/-! ### comprehensions -/
/-- what is built so far stands apart from what is known -/
structure Acc (Hs0 H0 : Hp) (l : Addr) (vs : List V) (Hs H : Hp) : Prop where
  sep : Sep Hs0 H0 Hs H
  fresh : H0 l = none
  out : Hs l = none
  at_ : H l = some (.lst vs)
section
variable {Hs0 H0 Hs H Hs' H' : Hp} {l : Addr} {vs ws : List V}
theorem Acc.new (s : Sep Hs0 H0 Hs H) (hl : H l = none) : Acc Hs0 H0 l [] Hs (upd H l (.lst [])) := ⟨s.hide hl, fresh_back s.h hl, fresh_back s.s hl, upd_same⟩
theorem Acc.step (a : Acc Hs0 H0 l vs Hs H) (s : Sep Hs H Hs' H') : Acc Hs0 H0 l vs Hs' H' := ⟨a.sep.trans s, a.fresh, s.out a.at_ a.out, s.h l _ a.at_⟩
theorem Acc.ext (a : Acc Hs0 H0 l vs Hs H) (e : Ex H H') : Acc Hs0 H0 l vs Hs H' := ⟨a.sep.ext e, a.fresh, a.out, e l _ a.at_⟩
theorem Acc.put (a : Acc Hs0 H0 l vs Hs H) : Acc Hs0 H0 l ws Hs (upd H l (.lst ws)) := ⟨a.sep.mut a.fresh a.out, a.fresh, a.out, upd_same⟩
/-- it is known now -/
theorem Acc.done (a : Acc Hs0 H0 l vs Hs H) : Sep Hs0 H0 (upd Hs l (.lst vs)) H := a.sep.show a.fresh a.out a.at_
theorem Acc.e (a : Acc Hs0 H0 l vs Hs H) : Ex Hs (upd Hs l (.lst vs)) := Ex.new a.out
end
section
variable {α : Type} {σ : L2.St} {K : PySem.W.Frag} {S : α → V → Hp → Prop} {te : TE} {t : TT}
/-- one turn of a comprehension -/
theorem lc_turn {f : α → Bool} {Hs0 H0 Hs H : Hp} {Dl : Addr} {ds : List α} {d : α} {i : Nat} {acc : List V} {σ2 : L2.St} (hm : ∀ d v H H', Ex H H' → S d v H → S d v H') (hi : ds[i]? = some d) (hz : i < 50000)
    (A : Acc Hs0 H0 Dl acc Hs H) (al : All2 (fun d v => S d v Hs) ((ds.take i).filter f) acc) (ht : EvT t σ2 Hs (f d)) (he : f d = true → W (te σ2) Hs (S d)) :
    t σ2 H fun b H3 => if b = true then te σ2 H3 fun y H4 => ∃ acc, H4 Dl = some (.lst acc) ∧ acc.length < sizeLine ∧ (∃ Hs' acc', Acc Hs0 H0 Dl acc' Hs' (upd H4 Dl (.lst (acc ++ [y]))) ∧ All2 (fun d v => S d v Hs') ((ds.take (i + 1)).filter f) acc')
      else (∃ Hs' acc', Acc Hs0 H0 Dl acc' Hs' H3 ∧ All2 (fun d v => S d v Hs') ((ds.take (i + 1)).filter f) acc') := by
  have e1 : ds.take (i + 1) = ds.take i ++ [d] := take_more hi
  refine ht H A.sep.s _ fun H3 e3 => ?_
  cases hf : f d with
  | true =>
    show te σ2 H3 _
    refine he hf H3 (A.sep.s.trans e3) _ fun y Hs4 H4 s4 p4 => ?_
    have A3 := A.ext e3
    have A4 := A3.step s4
    refine ⟨acc, A4.at_, ?_, Hs4, acc ++ [y], A4.put, ?_⟩
    · have hl := al.length
      have h2 : ((ds.take i).filter f).length ≤ i := Nat.le_trans (List.length_filter_le _ _) (by rw [List.length_take]; exact Nat.min_le_left _ _)
      exact sz_lt (by omega)
    · rw [e1, List.filter_append, List.filter_cons, if_pos hf, List.filter_nil]
      exact (al.mono fun a b r => hm a b _ _ s4.k r).snoc p4
  | false =>
    show ∃ Hs' acc', _
    refine ⟨Hs, acc, A.ext e3, ?_⟩
    rw [e1, List.filter_append, List.filter_cons, if_neg (by rw [hf]; exact Bool.false_ne_true), List.filter_nil, List.append_nil]
    exact al
/-- [e for x in xs if t], xs a list that is known once it is evaluated -/
theorem w_lcD {tl : TE} {j : Nat} {vs : List Nat} {Hs : Hp} {P0 : V → Hp → Prop} {Q : V → Hp → Prop} {R : α → V → Hp → Prop} (f : α → Bool) (hm : ∀ d v H H', Ex H H' → S d v H → S d v H') (hR : ∀ d v H H', Ex H H' → R d v H → R d v H')
    (hw : ∀ x, wipe ((wipe σ vs).set j (some x)) vs = wipe σ vs) (h : W (tl σ) Hs P0)
    (hk : ∀ v Hs1, Ex Hs Hs1 → P0 v Hs1 → ∃ (a : Addr) (xs : List V) (ds : List α), v = .ref a ∧ SqL K Hs1 a xs ∧ xs.length ≤ 40000 ∧ All2 (fun d v => R d v Hs1) ds xs ∧
      (∀ d x Hs2, d ∈ ds → Ex Hs1 Hs2 → R d x Hs2 → EvT t ((wipe σ vs).set j (some x)) Hs2 (f d)) ∧ (∀ d x Hs2, d ∈ ds → Ex Hs1 Hs2 → R d x Hs2 → f d = true → W (te ((wipe σ vs).set j (some x))) Hs2 (S d)) ∧
      (∀ p us Hs2, Ex Hs1 Hs2 → Hs1 p = none → Hs2 p = some (.lst us) → All2 (fun d v => S d v Hs2) (ds.filter f) us → Q (.ref p) Hs2)) :
    W (tLc (iList K tl) (gName j) t te vs σ) Hs Q := fun H e Rr q => h H e _ fun v Hs1 H1 s1 p1 => by
  obtain ⟨a, xs, ds, rfl, hx, hz, al, ht, he, fin⟩ := hk v Hs1 s1.k p1
  have hlen := al.length
  refine ⟨a, rfl, ⟨xs, ex_l s1.s hx⟩, fun Dl hD => ?_⟩
  refine lc_list (xs := xs) (fun i H' => ∃ Hs' acc', Acc Hs1 H1 Dl acc' Hs' H' ∧ All2 (fun d v => S d v Hs') ((ds.take i).filter f) acc') ⟨Hs1, [], Acc.new (Sep.refl s1.s) hD, .nil⟩
    (fun i H' _ ⟨Hs', acc', A, _⟩ => ex_l A.sep.ex0 hx) (fun i x H' hi ⟨Hs', acc', A, al'⟩ => ⟨hw x, ?_⟩) (fun H' ⟨Hs', acc', A, al'⟩ => ?_)
  · obtain ⟨d, hd, hr⟩ := al.get hi
    have hmem : d ∈ ds := List.mem_of_getElem? hd
    have hr' := hR d x _ _ A.sep.k hr
    have hilt := (List.getElem?_eq_some_iff.mp hi).1
    exact lc_turn hm hd (by omega) A al' (ht d x Hs' hmem A.sep.k hr') (he d x Hs' hmem A.sep.k hr')
  · have e2 : ds.take xs.length = ds := by rw [← hlen, List.take_length]
    rw [e2] at al'
    exact q _ _ _ (s1.trans A.done) (fin Dl acc' _ (A.sep.k.trans A.e) (fresh_back s1.s A.fresh) upd_same (al'.mono fun d v r => hm d v _ _ A.e r))
/-- .. over range(n) -/
theorem w_lcR {ta : TA} {j : Nat} {vs : List Nat} {Hs : Hp} {n : Nat} {Q : V → Hp → Prop} {S : Nat → V → Hp → Prop} (f : Nat → Bool) (hm : ∀ d v H H', Ex H H' → S d v H → S d v H') (h : EvA ta σ Hs [.int (n : Int)]) (hn : n ≤ 40000)
    (hw : ∀ x, wipe ((wipe σ vs).set j (some x)) vs = wipe σ vs)
    (ht : ∀ (d : Nat) Hs2, d < n → Ex Hs Hs2 → EvT t ((wipe σ vs).set j (some (.int (d : Int)))) Hs2 (f d)) (he : ∀ (d : Nat) Hs2, d < n → Ex Hs Hs2 → f d = true → W (te ((wipe σ vs).set j (some (.int (d : Int))))) Hs2 (S d))
    (fin : ∀ p us Hs2, Ex Hs Hs2 → Hs p = none → Hs2 p = some (.lst us) → All2 (fun d v => S d v Hs2) ((List.range n).filter f) us → Q (.ref p) Hs2) :
    W (tLc (iRng1 ta) (gName j) t te vs σ) Hs Q := fun H e Rr q => h H e _ fun H1 e1 => by
  have s1 : Sep Hs H Hs H1 := Sep.of e e1
  refine ⟨(n : Int), rfl, by omega, by omega, fun Dl hD => ?_⟩
  refine lc_range (lo := 0) (n := n) (fun i H' => ∃ Hs' acc', Acc Hs H1 Dl acc' Hs' H' ∧ All2 (fun d v => S d v Hs') (((List.range n).take i).filter f) acc') ⟨Hs, [], Acc.new (Sep.refl s1.s) hD, .nil⟩
    (fun i H' hi ⟨Hs', acc', A, al'⟩ => ?_) (fun H' ⟨Hs', acc', A, al'⟩ => ?_)
  · have e0 : (0 : Int) + (i : Int) = (i : Int) := Int.zero_add _
    show wipe ((wipe σ vs).set j (some (.int ((0 : Int) + (i : Int))))) vs = wipe σ vs ∧ _
    rw [e0]
    refine ⟨hw _, ?_⟩
    have hd : (List.range n)[i]? = some i := by rw [List.getElem?_range hi]
    exact lc_turn hm hd (by omega) A al' (ht i Hs' hi A.sep.k) (he i Hs' hi A.sep.k)
  · have e2 : (List.range n).take n = List.range n := by
      have := List.take_length (l := List.range n)
      rw [List.length_range] at this
      exact this
    rw [e2] at al'
    exact q _ _ _ (s1.trans A.done) (fin Dl acc' _ (A.sep.k.trans A.e) (fresh_back s1.s A.fresh) upd_same (al'.mono fun d v r => hm d v _ _ A.e r))
end
end Lp
end
section
set_option Elab.async false
set_option linter.all false
set_option maxRecDepth 100000
set_option maxHeartbeats 2000000
set_option pp.maxSteps 1500
/-! Rules that the layer lacks: min of data, slices by two, != of a list and an empty one. -/
namespace Lp
open PySem PySem.Spec PyProof.Rows L2 Evl
/-! ### min(xs), xs a list of data that are alike -/
theorem minD_mem (x : PyData) : ∀ xs : List PyData, PySem.W.minD x xs ∈ x :: xs := by
  intro xs
  unfold PySem.W.minD
  induction xs generalizing x with
  | nil => simp
  | cons y r ih =>
    rw [List.foldl_cons]
    have h := ih (if PySem.W.dataLt y x = true then y else x)
    rcases List.mem_cons.mp h with e | e
    · rw [e]
      by_cases c : PySem.W.dataLt y x = true
      · rw [if_pos c]; simp
      · rw [if_neg c]; simp
    · exact List.mem_cons_of_mem _ (List.mem_cons_of_mem _ e)
def rMinD (K : PySem.W.Frag) : List V → Hp → VK → Prop := fun vs H Q => ∃ (a : Addr) (us : List V) (x : PyData) (xs : List PyData), vs = [.ref a] ∧ SqL K H a us ∧ DpAll K H us (x :: xs) ∧ PySem.W.AlikeAll (x :: xs) ∧ PyData.depthAll (x :: xs) ≤ 20 ∧
  ∀ (i : Nat) (u : V), us[i]? = some u → (x :: xs)[i]? = some (PySem.W.minD x xs) → Q u H
theorem cr_minD {X : Cx} (hc : X.calm = true) (hu : X.A.units + 64 < cLine) : CallR X (.builtin "min") (rMinD X.K) := by
  intro pins s σ H vs us Q I r h
  obtain ⟨a, ws, x, xs, rfl, hs, hd, ha, hz, q⟩ := h
  obtain ⟨its, rv, hl, _⟩ := I.list hs
  rw [Vals.ref1 r]
  obtain ⟨as, hr⟩ := Dp.readsAll I (x :: xs) ws its hd rv
  have hr' : ReadsAll s.heap its.toArray.toList (x :: xs) as := hr
  refine PySem.W.min_list_data (I.ok.hd hc) hl.isList hr' ha (by omega) fun i v h' tk bs hv hrd hk => ?_
  have hv' : its[i]? = some v := by simpa using hv
  have hlen := rv.length
  have hi : i < ws.length := by
    have := (List.getElem?_eq_some_iff.mp hv').1
    omega
  have hw : ws[i]? = some ws[i] := List.getElem?_eq_getElem hi
  obtain ⟨v', e1, e2⟩ := Vals.get rv hw
  rw [hv'] at e1
  cases e1
  obtain ⟨bs', r1, hlt, m1, _⟩ := PySem.W.readsAll_at hr i v hv'
  have e3 : (x :: xs).getD i .none = PySem.W.minD x xs :=
    PySem.W.alike_unique _ _ v _ _ (ha.1 _ m1 _ (minD_mem x xs)) (PySem.W.reads_keeps hk r1) hrd
  have e4 : (x :: xs)[i]? = some (PySem.W.minD x xs) := by
    rw [← e3, List.getD_eq_getElem?_getD, List.getElem?_eq_getElem hlt]
    rfl
  exact ⟨ws[i], H, I.kept hk, e2, q i _ hw e4⟩
/-! ### xs[::2], xs[1::2] -/
def every2 {α : Type} : List α → List α
  | a :: _ :: r => a :: every2 r
  | [a] => [a]
  | [] => []
def pickV {α : Type} (xs : List α) (lo st : Option Int) : List α :=
  (sliceRange (sliceBounds lo none st xs.length).1 (sliceBounds lo none st xs.length).2.1 (sliceBounds lo none st xs.length).2.2).filterMap (xs[·]?)
theorem vals_pick {xs : List V} {us : List Value} (r : Vals xs us) : ∀ ks : List Nat, Vals (ks.filterMap (xs[·]?)) (ks.filterMap (us[·]?))
  | [] => .nil
  | k :: ks => by
    cases e : xs[k]? with
    | none =>
      have e2 := r.none_of e
      rw [List.filterMap_cons, List.filterMap_cons, e, e2]
      exact vals_pick r ks
    | some x =>
      obtain ⟨u, e2, r2⟩ := Vals.get r e
      rw [List.filterMap_cons, List.filterMap_cons, e, e2]
      exact .cons r2 (vals_pick r ks)
theorem pick_range (n lo : Nat) (h : lo ≤ n) : sliceRange (lo : Int) (n : Int) 2 = (List.range ((n - lo + 1) / 2)).map fun k => lo + 2 * k := by
  unfold sliceRange
  have h1 : ((2 : Int) > 0) := by decide
  simp only [h1, if_true]
  by_cases c : (lo : Int) < (n : Int)
  · have e : (if (lo : Int) < (n : Int) then ((n : Int) - lo + 2 - 1) / 2 else 0).toNat = (n - lo + 1) / 2 := by
      rw [if_pos c]
      omega
    rw [e]
    apply List.map_congr_left
    intro k hk
    omega
  · have e : n = lo := by omega
    subst e
    simp
theorem every2_get {α : Type} : ∀ (xs : List α), every2 xs = (List.range ((xs.length + 1) / 2)).filterMap fun k => xs[2 * k]?
  | [] => by simp [every2]
  | [a] => by simp [every2, List.range_succ]
  | a :: b :: r => by
    have ih := every2_get r
    have e : ((a :: b :: r).length + 1) / 2 = (r.length + 1) / 2 + 1 := by simp only [List.length_cons]; omega
    rw [e, List.range_succ_eq_map, List.filterMap_cons, List.filterMap_map]
    show a :: every2 r = a :: _
    rw [ih]
    congr 1
theorem pick_even {α : Type} (xs : List α) : pickV xs none (some 2) = every2 xs := by
  unfold pickV
  have e : sliceBounds none none (some 2) xs.length = (((0 : Nat) : Int), (xs.length : Int), 2) := by simp [sliceBounds]
  rw [e]
  show ((sliceRange ((0 : Nat) : Int) (xs.length : Int) 2).filterMap (xs[·]?)) = _
  rw [pick_range _ 0 (Nat.zero_le _), List.filterMap_map, every2_get]
  congr 1
  funext k
  simp
theorem pick_odd {α : Type} (xs : List α) (h : 1 ≤ xs.length) : pickV xs (some 1) (some 2) = every2 (xs.drop 1) := by
  unfold pickV
  have e : sliceBounds (some 1) none (some 2) xs.length = (((1 : Nat) : Int), (xs.length : Int), 2) := by
    simp only [sliceBounds, Option.getD_some]
    have h1 : max (0 : Int) (min 1 (xs.length : Int)) = 1 := by omega
    simp [h1]
  rw [e]
  show ((sliceRange ((1 : Nat) : Int) (xs.length : Int) 2).filterMap (xs[·]?)) = _
  rw [pick_range _ 1 h, List.filterMap_map, every2_get, List.length_drop]
  congr 1
  funext k
  simp [Nat.add_comm]
theorem pick_odd0 {α : Type} : pickV ([] : List α) (some 1) (some 2) = every2 (([] : List α).drop 1) := by
  unfold pickV
  simp
  rfl
theorem every2_le {α : Type} : ∀ xs : List α, (every2 xs).length ≤ xs.length
  | [] => Nat.le_refl _
  | [_] => Nat.le_refl _
  | a :: b :: r => by
    have ih := every2_le r
    show (every2 r).length + 1 ≤ r.length + 1 + 1
    omega
theorem pick_even_le {α : Type} (xs : List α) : (pickV xs none (some 2)).length ≤ xs.length := by
  rw [pick_even]
  exact every2_le xs
theorem pick_odd_all {α : Type} : ∀ xs : List α, pickV xs (some 1) (some 2) = every2 (xs.drop 1)
  | [] => pick_odd0
  | a :: r => pick_odd (a :: r) (by simp)
theorem pick_odd_le {α : Type} (xs : List α) : (pickV xs (some 1) (some 2)).length ≤ xs.length := by
  rw [pick_odd_all]
  refine Nat.le_trans (every2_le _) ?_
  rw [List.length_drop]
  omega
def tStep (K : PySem.W.Frag) (te : TE) (lo : Option Int) : TE := fun σ H Q => te σ H fun x H1 => ∃ a xs, x = .ref a ∧ SqL K H1 a xs ∧ ∀ p, H1 p = none → Q (.ref p) (upd H1 p (.lst (pickV xs lo (some 2))))
theorem pe_step {X : Cx} {e : Expr} {te : TE} {le : Option Expr} {lo : Option Int} {k : Nat} {p1 p3 pos : Pos} (he : PE X e te) (hle : PO X le (fun _ H Q => Q lo H)) (hlo : ∀ xs : List V, (pickV xs lo (some 2)).length ≤ xs.length) :
    PE X (.Subscript e (.Slice le none (some (.Constant (.int 2) k p1)) p3) pos) (tStep X.K te lo) := by
  refine ⟨fun pins s σ H Q I h => ?_⟩
  refine Subscript_ (thn (he.run pins s σ H _ I h) fun v s1 ⟨x, H1, I1, r1, q1⟩ => ?_)
  obtain ⟨a, xs, ex, hx, q⟩ := q1
  subst ex
  cases r1
  have hst : PO X (some (.Constant (.int 2) k p1)) (tPart (tC (.int 2))) := po_some pe_int
  refine wpAny_Slice (thn (hle.run pins s1 σ H1 (fun o H2 => o = lo ∧ H2 = H1) I1 ⟨rfl, rfl⟩) fun vl s2 ⟨l, H2, I2, pl, el, e2⟩ => ?_)
  subst el e2
  refine thn (po_none.run pins s2 σ H2 (fun o H3 => o = none ∧ H3 = H2) I2 ⟨rfl, rfl⟩) fun vu s3 ⟨u, H3, I3, pu, eu, e3⟩ => ?_
  subst eu e3
  refine thn (hst.run pins s3 σ H3 (fun o H4 => o = some 2 ∧ H4 = H3) I3 ⟨2, rfl, rfl, rfl⟩) fun vs s4 ⟨o, H4, I4, ps, eo, e4⟩ => ?_
  subst eo e4
  have I5 : Inv X pins σ H4 { s4 with heap := s4.heap.push { cls := .type "slice", data := .fields #[vl, vu, vs] } } := I4.kept (t' := s4.toks) fun b ob q => Heap.get?_push_of_some _ q
  obtain ⟨its, r, ht, hz⟩ := I5.list hx
  have hlen := r.length
  show wpAny (model X.prog X.w) X.A (subscriptTail e (.Slice le none (some (.Constant (.int 2) k p1)) p3) (.ref a) (.ref s4.heap.objs.size)) (EP X pins σ Q) X.xe { s4 with heap := s4.heap.push { cls := .type "slice", data := .fields #[vl, vu, vs] } }
  refine tail_any (ops := [.ref a, .ref s4.heap.objs.size]) ht.isList.typeIs (PySem.slot_list_getitem.lookup) ?_ (by with_unfolding_all rfl)
  refine wpAny_getItem_list_slice ht.isList (Heap.IsSliceOf.new _ vl vu vs) pl pu ps (by decide) ?_ (by rw [List.size_toArray]; omega)
  have e5 : slicePick its.toArray l none (some 2) = (pickV its l (some 2)).toArray := by
    unfold slicePick pickV
    rw [List.size_toArray]
    congr 2
    funext j
    simp
  rw [e5]
  have hv : Vals (pickV xs l (some 2)) (pickV its l (some 2)) := by
    unfold pickV
    rw [hlen]
    exact vals_pick r _
  refine ⟨.ref _, _, I5.laid (t' := s4.toks) (o := .lst (pickV xs l (some 2))) (fun b ob q => Heap.get?_push_of_some _ q) (Nat.le_refl _) ?_, rfl, q _ (I5.hok.fresh (Nat.le_refl _))⟩
  refine ⟨?_, _, 0, hv, Heap.get?_push_size _ rfl⟩
  exact Nat.le_trans (hlo xs) hz
/-! ### xs != [], whatever is in xs -/
def rNeNil (K : PySem.W.Frag) : R2 := fun x y H Q => ∃ a b xs, x = .ref a ∧ y = .ref b ∧ SqL K H a xs ∧ SqL K H b [] ∧ Q (.bl (!xs.isEmpty)) H
theorem op_neNil {X : Cx} (hu : X.A.units + 64 < cLine) : OpR X (compareOp .NotEq) (rNeNil X.K) := by
  intro pins s σ H x y v u Q I rx ry h
  obtain ⟨a, b, xs, rfl, rfl, hx, hy, q⟩ := h
  cases xs with
  | nil => exact op_neD hu pins s σ H _ _ v u Q I rx ry ⟨.list [], .list [], .lst hx .nil, .lst hy .nil, by decide, by decide, q⟩
  | cons z zs =>
    cases rx
    cases ry
    obtain ⟨its, rv, hl, _⟩ := I.list hx
    obtain ⟨its2, rv2, hl2, _⟩ := I.list hy
    cases rv2
    have e := rv.length
    refine SeqAt.RcNeAt.lists_lengths hl.isList hl2.isList ?_ (by omega) X.prog X.w _ _ ⟨.bl _, H, I, rfl, q⟩
    rw [List.size_toArray, List.size_toArray, ← e]
    rfl
/-! ### xs == [] -/
def rEqNil (K : PySem.W.Frag) : R2 := fun x y H Q => ∃ a b xs, x = .ref a ∧ y = .ref b ∧ SqL K H a xs ∧ SqL K H b [] ∧ Q (.bl xs.isEmpty) H
theorem op_eqNil {X : Cx} (hu : X.A.units + 64 < cLine) : OpR X (compareOp .Eq) (rEqNil X.K) := by
  intro pins s σ H x y v u Q I rx ry h
  obtain ⟨a, b, xs, rfl, rfl, hx, hy, q⟩ := h
  cases xs with
  | nil => exact op_eqD hu pins s σ H _ _ v u Q I rx ry ⟨.list [], .list [], .lst hx .nil, .lst hy .nil, by decide, by decide, q⟩
  | cons z zs =>
    cases rx
    cases ry
    obtain ⟨its, rv, hl, _⟩ := I.list hx
    obtain ⟨its2, rv2, hl2, _⟩ := I.list hy
    cases rv2
    have e := rv.length
    refine SeqAt.RcAt.lists_lengths hl.isList hl2.isList ?_ (by omega) X.prog X.w _ _ ⟨.bl _, H, I, rfl, q⟩
    rw [List.size_toArray, List.size_toArray, ← e]
    rfl
end Lp
end
section
set_option Elab.async false
set_option linter.all false
set_option maxRecDepth 100000
set_option maxHeartbeats 2000000
/-! The text by places; what the top has written. Printed by gen.py -/
namespace Lp
open PySem PySem.Spec PyProof.Rows L2 Evl
def top (i : Nat) : Stmt := PySem.Challenge.pw_loosenedplans_s01_answers.main.body.getD i (.Pass ⟨0, 0, 0, 0⟩)
abbrev s_may_be_done : Stmt := top 1
abbrev s_behind : Stmt := top 2
abbrev s_rows_of : Stmt := top 4
abbrev s_members : Stmt := top 6
abbrev s_pairs_of : Stmt := top 7
abbrev s_told_pairs : Stmt := top 8
abbrev s_is_whole : Stmt := top 9
abbrev s_all_orders : Stmt := top 10
abbrev s_lets : Stmt := top 11
abbrev s_working : Stmt := top 12
abbrev s_loosened : Stmt := top 13
abbrev s_ends_of : Stmt := top 14
abbrev s_soonest : Stmt := top 15
abbrev s_first_failing : Stmt := top 16
abbrev s_with_all_before : Stmt := top 17
abbrev s_begun : Stmt := top 29
abbrev s_is_act : Stmt := top 30
abbrev s_act : Stmt := top 31
abbrev s_plan : Stmt := top 32
abbrev s_loosen : Stmt := top 33
abbrev s_rows : Stmt := top 34
abbrev s_failing_told : Stmt := top 35
abbrev s_is_near_pair : Stmt := top 36
abbrev s_why : Stmt := top 37
abbrev s_soonest_told : Stmt := top 38
abbrev s_check : Stmt := top 39
abbrev s_answer : Stmt := top 44
abbrev s_answers : Stmt := top 45
abbrev s_Case_init : Stmt := inClass (top 3) 0
abbrev s_Case_tried : Stmt := inClass (top 3) 1
abbrev s_Case_fails : Stmt := inClass (top 3) 2
abbrev s_Case_all_steps : Stmt := inClass (top 3) 3
abbrev s_Case_failing : Stmt := inClass (top 3) 4
abbrev s_House_init : Stmt := inClass (top 28) 0
/-- a def as it stands behind the top -/
structure D1 (K : PySem.W.Frag) (mg : Str → Option Value) (x : Str) (st : Stmt) (ps : List Str) where
  f : Addr
  fd : FuncData
  g : mg x = some (.ref f)
  F : Fun K x x st f fd
  b : Binds K fd ps []
/-- a method -/
structure M1 (K : PySem.W.Frag) (C : Addr) (x qual : Str) (st : Stmt) (ps : List Str) where
  f : Addr
  fd : FuncData
  F : Fun K x qual st f fd
  b : Binds K fd ps []
  m : Meth K C x f
structure All (K : PySem.W.Frag) (mg : Str → Option Value) where
  Case : Addr
  g_Case : mg "Case" = some (.ref Case)
  cl_Case : Cls K Case
  na_Case_steps : NoAttr K Case "steps"
  na_Case_so : NoAttr K Case "so"
  na_Case_wanted : NoAttr K Case "wanted"
  House : Addr
  g_House : mg "House" = some (.ref House)
  cl_House : Cls K House
  na_House_facts : NoAttr K House "facts"
  na_House_so : NoAttr K House "so"
  na_House_wanted : NoAttr K House "wanted"
  na_House_acts : NoAttr K House "acts"
  na_House_case : NoAttr K House "case"
  na_House_order : NoAttr K House "order"
  Case_init : M1 K Case "__init__" "Case.__init__" s_Case_init ["self", "steps", "so", "wanted"]
  Case_tried : M1 K Case "tried" "Case.tried" s_Case_tried ["self", "row"]
  Case_fails : M1 K Case "fails" "Case.fails" s_Case_fails ["self", "row"]
  Case_all_steps : M1 K Case "all_steps" "Case.all_steps" s_Case_all_steps ["self"]
  Case_failing : M1 K Case "failing" "Case.failing" s_Case_failing ["self"]
  House_init : M1 K House "__init__" "House.__init__" s_House_init ["self", "facts", "so", "wanted"]
  mk_Case : Mk K Case Case_init.f
  mk_House : Mk K House House_init.f
  may_be_done : D1 K mg "may_be_done" s_may_be_done ["act", "state"]
  behind : D1 K mg "behind" s_behind ["act", "state"]
  rows_of : D1 K mg "rows_of" s_rows_of ["order"]
  members : D1 K mg "members" s_members ["some", "many"]
  pairs_of : D1 K mg "pairs_of" s_pairs_of ["order"]
  told_pairs : D1 K mg "told_pairs" s_told_pairs ["order"]
  is_whole : D1 K mg "is_whole" s_is_whole ["order", "some"]
  all_orders : D1 K mg "all_orders" s_all_orders ["many"]
  lets : D1 K mg "lets" s_lets ["order", "row"]
  working : D1 K mg "working" s_working ["case"]
  loosened : D1 K mg "loosened" s_loosened ["case"]
  ends_of : D1 K mg "ends_of" s_ends_of ["order", "each"]
  soonest : D1 K mg "soonest" s_soonest ["case", "each"]
  first_failing : D1 K mg "first_failing" s_first_failing ["case", "order"]
  with_all_before : D1 K mg "with_all_before" s_with_all_before ["order"]
  begun : D1 K mg "begun" s_begun ["facts", "so", "wanted"]
  is_act : D1 K mg "is_act" s_is_act ["house", "told"]
  act : D1 K mg "act" s_act ["house", "told"]
  plan : D1 K mg "plan" s_plan ["house", "acts"]
  loosen : D1 K mg "loosen" s_loosen ["house"]
  rows : D1 K mg "rows" s_rows ["house"]
  failing_told : D1 K mg "failing_told" s_failing_told ["case", "order"]
  is_near_pair : D1 K mg "is_near_pair" s_is_near_pair ["order", "step", "later"]
  why : D1 K mg "why" s_why ["house", "step", "later"]
  soonest_told : D1 K mg "soonest_told" s_soonest_told ["house", "each"]
  check : D1 K mg "check" s_check ["house", "pairs"]
  answer : D1 K mg "answer" s_answer ["house", "call", "told", "row"]
  answers : D1 K mg "answers" s_answers ["calls"]
  c_WRONG : ∃ t, mg "WRONG" = some (.int (-1) t)
  c_NO_PAIR : ∃ t, mg "NO_PAIR" = some (.int (-2) t)
  c_NO_PLAN : ∃ t, mg "NO_PLAN" = some (.int (-5) t)
  c_TOO_MANY : ∃ t, mg "TOO_MANY" = some (.int (-7) t)
  c_MOST_FACTS : ∃ t, mg "MOST_FACTS" = some (.int (8) t)
  c_MOST_ACTS : ∃ t, mg "MOST_ACTS" = some (.int (12) t)
  c_MOST_STEPS : ∃ t, mg "MOST_STEPS" = some (.int (5) t)
  c_MOST_COST : ∃ t, mg "MOST_COST" = some (.int (1000) t)
  c_NUMBERS_OF_ACT : ∃ t, mg "NUMBERS_OF_ACT" = some (.int (5) t)
  c_BEGINS : ∃ t, mg "BEGINS" = some (.int (0) t)
  c_NUMBERS : ∃ a, mg "NUMBERS" = some (.ref a) ∧ ∀ H, SqT K H a ([3, 0, 0, 0, 0, 2, 0, 0].map V.int)
  c_WITH_ROW : ∃ a, mg "WITH_ROW" = some (.ref a) ∧ ∀ H, SqT K H a ([1, 2, 6, 7].map V.int)
  z_enumerate : mg "enumerate" = none
  z_len : mg "len" = none
  z_list : mg "list" = none
  z_range : mg "range" = none
  z_sum : mg "sum" = none
  z_all : mg "all" = none
  z_any : mg "any" = none
  z_min : mg "min" = none
  z_max : mg "max" = none
  z_zip : mg "zip" = none
  z_tuple : mg "tuple" = none
end Lp
end
section
set_option Elab.async false
set_option linter.all false
set_option maxRecDepth 100000
set_option maxHeartbeats 2000000
set_option pp.maxSteps 3000
namespace Lp
open PySem PySem.Spec PyProof.Rows L2 Evl

/-! ### numbers as sets -/
theorem bit_and (a b : Nat) : Builtin.bitAnd (a : Int) (b : Int) = ((a &&& b : Nat) : Int) := by
  unfold Builtin.bitAnd
  rw [decide_eq_true (Int.natCast_nonneg a), decide_eq_true (Int.natCast_nonneg b)]
  simp
theorem bit_not_not (a : Nat) : (Builtin.bitNot (Builtin.bitNot (a : Int))).toNat = a := by
  unfold Builtin.bitNot
  omega
theorem bit_not_neg (a : Nat) : ¬ (0 ≤ Builtin.bitNot (a : Int)) := by
  unfold Builtin.bitNot
  omega
theorem bit_andNot (a b : Nat) : Builtin.bitAnd (a : Int) (Builtin.bitNot (b : Int)) = ((andNot a b : Nat) : Int) := by
  unfold Builtin.bitAnd andNot
  rw [decide_eq_true (Int.natCast_nonneg a), decide_eq_false (bit_not_neg b)]
  have h : a &&& b ≤ a := Nat.and_le_left
  simp only [bit_not_not, Int.toNat_natCast]
  omega
theorem bit_or (a b : Nat) : Builtin.bitOr (a : Int) (b : Int) = ((a ||| b : Nat) : Int) := by
  unfold Builtin.bitOr Builtin.bitAnd
  rw [decide_eq_false (bit_not_neg a), decide_eq_false (bit_not_neg b)]
  simp only [bit_not_not]
  unfold Builtin.bitNot
  omega
theorem shl_nat (n : Nat) : (1 : Int) * 2 ^ ((n : Int)).toNat = ((2 ^ n : Nat) : Int) := by
  rw [Int.toNat_natCast, Int.one_mul, Int.natCast_pow]
  rfl
theorem dN (a b : Nat) : decide (V.int (a : Int) = V.int (b : Int)) = decide (a = b) := by
  by_cases h : a = b
  · subst h
    simp
  · rw [decide_eq_false h, decide_eq_false]
    intro e
    injection e with e
    exact h (by omega)
/-! ### data in the heap -/
abbrev nV (l : List Nat) : List V := l.map fun n => V.int ((n : Nat) : Int)
def actV (a : Pn.Act) : List V := [.int (a.pre : Nat), .int (a.no : Nat), .int (a.add : Nat), .int (a.del : Nat), .int (a.cost : Nat)]
/-- a list of numbers -/
def rNs (l : List Nat) (v : V) (H : Hp) : Prop := ∃ a, v = .ref a ∧ H a = some (.lst (nV l))
/-- a list of what R tells -/
def rLs {α : Type} (R : α → V → Hp → Prop) (l : List α) (v : V) (H : Hp) : Prop := ∃ a vs, v = .ref a ∧ H a = some (.lst vs) ∧ All2 (fun d u => R d u H) l vs
def rPr (p : Nat × Nat) (v : V) (H : Hp) : Prop := ∃ a, v = .ref a ∧ H a = some (.tup [.int (p.1 : Nat), .int (p.2 : Nat)])
def rAc (x : Pn.Act) (v : V) (H : Hp) : Prop := ∃ a, v = .ref a ∧ H a = some (.tup (actV x))
theorem rNs.up {l : List Nat} {v : V} {H H' : Hp} (e : Ex H H') (h : rNs l v H) : rNs l v H' := let ⟨a, h1, h2⟩ := h; ⟨a, h1, e a _ h2⟩
theorem rPr.up {p : Nat × Nat} {v : V} {H H' : Hp} (e : Ex H H') (h : rPr p v H) : rPr p v H' := let ⟨a, h1, h2⟩ := h; ⟨a, h1, e a _ h2⟩
theorem rAc.up {x : Pn.Act} {v : V} {H H' : Hp} (e : Ex H H') (h : rAc x v H) : rAc x v H' := let ⟨a, h1, h2⟩ := h; ⟨a, h1, e a _ h2⟩
theorem rLs.up {α : Type} {R : α → V → Hp → Prop} (hR : ∀ d v H H', Ex H H' → R d v H → R d v H') {l : List α} {v : V} {H H' : Hp} (e : Ex H H') (h : rLs R l v H) : rLs R l v H' :=
  let ⟨a, vs, h1, h2, h3⟩ := h
  ⟨a, vs, h1, e a _ h2, h3.mono fun d u r => hR d u _ _ e r⟩
/-- a case: its steps, the first state, what's wanted -/
def caseF (ls : Addr) (so wanted : Nat) : List (Str × V) := [("steps", .ref ls), ("so", .int (so : Nat)), ("wanted", .int (wanted : Nat))]
structure CaseAt (C : Addr) (H : Hp) (c : Addr) (steps : List Pn.Act) (so wanted : Nat) : Prop where
  ex : ∃ dx ls vs, H c = some (.ins C dx (caseF ls so wanted)) ∧ H ls = some (.lst vs) ∧ All2 (fun d u => rAc d u H) steps vs
theorem CaseAt.up {C : Addr} {H H' : Hp} {c : Addr} {steps : List Pn.Act} {so wanted : Nat} (e : Ex H H') (h : CaseAt C H c steps so wanted) : CaseAt C H' c steps so wanted :=
  let ⟨dx, ls, vs, h1, h2, h3⟩ := h.ex
  ⟨dx, ls, vs, e c _ h1, e ls _ h2, h3.mono fun d u r => r.up e⟩
/-- a promise's end where what is given is told by what is known -/
def Ret (Hs H : Hp) (P : V → Hp → Prop) (Q : VK) : Prop := ∀ v Hs' H', Sep Hs H Hs' H' → P v Hs' → Q v H'
/-! ### the promises -/
def spMay : Sp := fun vs H Q _ => ∃ (p : Addr) (a : Pn.Act) (s : Nat), vs = [.ref p, .int (s : Nat)] ∧ H p = some (.tup (actV a)) ∧ RetV (.bl (mayBe a s)) H Q
def spBehind : Sp := fun vs H Q _ => ∃ (p : Addr) (a : Pn.Act) (s : Nat), vs = [.ref p, .int (s : Nat)] ∧ H p = some (.tup (actV a)) ∧ RetV (.int (behind a s : Nat)) H Q
section
variable {P : Program} {w : World} {K : PySem.W.Frag} {mg : Str → Option Value} {base : Heap}
theorem sc_may : FnScope ["act", "state", "needs", "bars", "brings", "takes", "cost"] ["act", "state"] (defScope s_may_be_done) := ⟨rfl, rfl, rfl, by decide +kernel, rfl, by decide +kernel, by decide +kernel⟩
theorem ok_may (T : All K mg) : FnOk P w K mg base CX0 1 T.may_be_done.f T.may_be_done.fd ["act", "state"] spMay := by
  refine T.may_be_done.F.ok sc_may (fun vs H Q E h => ?_) (fun cdv A outer s H vs Q E hr h => ?_)
  · obtain ⟨p, a, s, rfl, _⟩ := h
    rfl
  · obtain ⟨p, a, st, rfl, hp, k⟩ := h
    refine ⟨_, pss_cons (ps_asg (pv 0) (pg_tup rfl (pgs_cons (pg_name (i := 2) sc_may.nd rfl (.inl rfl)) (pgs_cons (pg_name (i := 3) sc_may.nd rfl (.inl rfl)) (pgs_cons (pg_name (i := 4) sc_may.nd rfl (.inl rfl))
        (pgs_cons (pg_name (i := 5) sc_may.nd rfl (.inl rfl)) (pgs_cons (pg_name (i := 6) sc_may.nd rfl (.inl rfl)) pgs_nil)))))))
      (pss_one (ps_ret (pe_and (pe_cmpR op_eq (pe_op op_and (pv 1) (pv 2)) (pv 2) (nomark _)) (pe_one (pe_cmpR op_eq (pe_op op_and (pv 1) (pv 3)) pe_int (nomark _)))))), ?_⟩
    refine ⟨_, rfl, p, _, rfl, SqT.of hp, rfl, _, _, rfl, _, _, rfl, _, _, rfl, _, _, rfl, _, _, rfl, rfl, ?_⟩
    dsimp only
    refine s_ret (v := .bl (mayBe a st)) (ev_andV (a := decide (st &&& a.pre = a.pre)) (b := decide (st &&& a.no = 0)) ?_ fun _ => ?_) ?_
    · refine ev_is (ev_op (ev_op (ev_var rfl) (ev_var rfl) rv_I0) (ev_var rfl) (rv_eq rfl)) ?_
      rw [bit_and, dN]
    · refine ev_is (ev_op (ev_op (ev_var rfl) (ev_var rfl) rv_I0) ev_c (rv_eq rfl)) ?_
      rw [bit_and]
      exact congrArg V.bl (dN _ 0)
    · exact k
theorem sc_behind : FnScope ["act", "state", "needs", "bars", "brings", "takes", "cost"] ["act", "state"] (defScope s_behind) := ⟨rfl, rfl, rfl, by decide +kernel, rfl, by decide +kernel, by decide +kernel⟩
theorem ok_behind (T : All K mg) : FnOk P w K mg base CX0 1 T.behind.f T.behind.fd ["act", "state"] spBehind := by
  refine T.behind.F.ok sc_behind (fun vs H Q E h => ?_) (fun cdv A outer s H vs Q E hr h => ?_)
  · obtain ⟨p, a, s, rfl, _⟩ := h
    rfl
  · obtain ⟨p, a, st, rfl, hp, k⟩ := h
    refine ⟨_, pss_cons (ps_asg (pv 0) (pg_tup rfl (pgs_cons (pg_name (i := 2) sc_may.nd rfl (.inl rfl)) (pgs_cons (pg_name (i := 3) sc_may.nd rfl (.inl rfl)) (pgs_cons (pg_name (i := 4) sc_may.nd rfl (.inl rfl))
        (pgs_cons (pg_name (i := 5) sc_may.nd rfl (.inl rfl)) (pgs_cons (pg_name (i := 6) sc_may.nd rfl (.inl rfl)) pgs_nil)))))))
      (pss_one (ps_ret (pe_op op_or (pe_op op_and (pv 1) (pe_un un_inv (pv 5))) (pv 4)))), ?_⟩
    refine ⟨_, rfl, p, _, rfl, SqT.of hp, rfl, _, _, rfl, _, _, rfl, _, _, rfl, _, _, rfl, _, _, rfl, rfl, ?_⟩
    dsimp only
    refine s_ret (v := .int (behind a st : Nat)) (ev_is (ev_op (ev_op (ev_var rfl) (ev_un (ev_var rfl) (fun H1 _ _ q => ⟨_, rfl, q H1 (Ex.refl H1)⟩)) rv_I0) (ev_var rfl) rv_I0) ?_) ?_
    · rw [bit_andNot, bit_or]
      rfl
    · exact k
end
end Lp
end
section
set_option Elab.async false
set_option linter.all false
set_option maxRecDepth 100000
set_option maxHeartbeats 2000000
set_option pp.maxSteps 3000
namespace Lp
open PySem PySem.Spec PyProof.Rows L2 Evl
section
variable {K : PySem.W.Frag} {σ : L2.St} {H H' : Hp} {ta tb tc te tl : TE} {t u : TT} {x y z v : V} {r r' : R2} {C a dx : Addr} {fs : List (Str × V)} {f m : Str} {tr : TA} {vs dvs : List V} {sp : Sp} {E : XK}
theorem lk_here {k : Str} {v : V} {r : List (Str × V)} : List.lookup k ((k, v) :: r) = some v := by
  have e : (k == k) = true := beq_self_eq_true k
  simp only [List.lookup, e]
theorem lk_past {k g : Str} {v : V} {r : List (Str × V)} (h : (k == g) = false) : List.lookup k ((g, v) :: r) = List.lookup k r := by
  simp only [List.lookup, h]
theorem put_here {f : Str} {v x : V} {r : List (Str × V)} : putF f v ((f, x) :: r) = (f, v) :: r := if_pos rfl
theorem put_past {f g : Str} {v x : V} {r : List (Str × V)} (h : ¬ g = f) : putF f v ((g, x) :: r) = (g, x) :: putF f v r := if_neg h
theorem ev_fld (h : Ev te σ H (.ref a)) (ho : H a = some (.ins C dx fs)) (c : Cls K C) (n : NoAttr K C f) (l : fs.lookup f = some v) : Ev (tFld K te f) σ H v := fun H1 e Q q =>
  h H1 e _ fun H2 e2 => ⟨a, C, dx, fs, v, rfl, e2 a _ (e a _ ho), c, n, l, q H2 e2⟩
theorem ev_meth (h : Ev te σ H (.ref a)) (ho : H a = some (.ins C dx fs)) (l : fs.lookup m = none) (ha : EvA tr σ H vs) (hs : SpV sp (.ref a :: (vs ++ dvs)) H z) : Ev (tMeth C m sp dvs E te tr) σ H z := fun H1 e Q q =>
  h H1 e _ fun H2 e2 => ⟨a, dx, fs, rfl, e2 a _ (e a _ ho), l, ha H2 (e.trans e2) _ fun H3 e3 => hs H3 ((e.trans e2).trans e3) Q (fun H4 e4 => q H4 ((e2.trans e3).trans e4)) E⟩
theorem el_meth {xs : List V} (h : Ev te σ H (.ref a)) (ho : H a = some (.ins C dx fs)) (l : fs.lookup m = none) (ha : EvA tr σ H vs) (hs : SpL sp (.ref a :: (vs ++ dvs)) H xs) : EvL (tMeth C m sp dvs E te tr) σ H xs := fun H1 e Q q =>
  h H1 e _ fun H2 e2 => ⟨a, dx, fs, rfl, e2 a _ (e a _ ho), l, ha H2 (e.trans e2) _ fun H3 e3 => hs H3 ((e.trans e2).trans e3) Q (fun p H4 hp e4 h4 => q p H4 (fresh_back (e2.trans e3) hp) ((e2.trans e3).trans e4) h4) E⟩
def SpU (sp : Sp) (vs : List V) (H : Hp) (xs : List V) : Prop := ∀ H1, Ex H H1 → ∀ Q : VK, (∀ p H2, H1 p = none → Ex H1 H2 → H2 p = some (.tup xs) → Q (.ref p) H2) → ∀ E : XK, sp vs H1 Q E
theorem eu_meth {xs : List V} (h : Ev te σ H (.ref a)) (ho : H a = some (.ins C dx fs)) (l : fs.lookup m = none) (ha : EvA tr σ H vs) (hs : SpU sp (.ref a :: (vs ++ dvs)) H xs) : EvU (tMeth C m sp dvs E te tr) σ H xs := fun H1 e Q q =>
  h H1 e _ fun H2 e2 => ⟨a, dx, fs, rfl, e2 a _ (e a _ ho), l, ha H2 (e.trans e2) _ fun H3 e3 => hs H3 ((e.trans e2).trans e3) Q (fun p H4 hp e4 h4 => q p H4 (fresh_back (e2.trans e3) hp) ((e2.trans e3).trans e4) h4) E⟩
theorem w_meth {P : V → Hp → Prop} (h : Ev te σ H (.ref a)) (ho : H a = some (.ins C dx fs)) (l : fs.lookup m = none) (ha : EvA tr σ H vs) (hs : W (fun H1 Q => sp (.ref a :: (vs ++ dvs)) H1 Q E) H P) : W (tMeth C m sp dvs E te tr σ) H P := fun H1 e Q q =>
  h H1 e _ fun H2 e2 => ⟨a, dx, fs, rfl, e2 a _ (e a _ ho), l, ha H2 (e.trans e2) _ fun H3 e3 => hs H3 ((e.trans e2).trans e3) Q fun v Hs' H4 s p => q v Hs' H4 ⟨s.k, (e2.trans e3).trans s.h, s.s, fun b o hb n => s.j b o (e3 b o (e2 b o hb)) n⟩ p⟩
/-- a < b < c -/
theorem ev_chain {k1 k2 : Bool} (ha : Ev ta σ H x) (hb : Ev tb σ H y) (hr : RV r x y H (.bl k1)) (hc : k1 = true → Ev tc σ H z) (hr' : k1 = true → RV r' y z H (.bl k2)) : Ev (tChain r r' ta tb tc) σ H (.bl (k1 && k2)) := fun H1 e Q q =>
  ha H1 e _ fun H2 e2 => hb H2 (e.trans e2) _ fun H3 e3 => hr H3 ((e.trans e2).trans e3) _ fun H4 e4 => ⟨k1, rfl, by
    have e14 := (e2.trans e3).trans e4
    cases k1 with
    | true =>
      rw [if_pos rfl]
      exact hc rfl H4 (e.trans e14) _ fun H5 e5 => hr' rfl H5 ((e.trans e14).trans e5) Q fun H6 e6 => q H6 ((e14.trans e5).trans e6)
    | false =>
      rw [if_neg Bool.false_ne_true]
      exact q H4 e14⟩
theorem et_tB {b : Bool} (h : Ev te σ H (.bl b)) : EvT (tB te) σ H b := et_B h
theorem eu_to (h : EvU te σ H vs) {H1 : Hp} (e : Ex H H1) : EvU te σ H1 vs := fun H2 e2 Q q => h H2 (e.trans e2) Q q
/-- t[i] of a new tuple -/
theorem ev_ixU {i : Int} {xs : List V} (h : EvU ta σ H xs) (hb : Ev tb σ H (.int i)) (hv : atI xs i = some v) : Ev (tOp (rIxT K) ta tb) σ H v := fun H1 e Q q =>
  h H1 e _ fun p H2 _ e2 hp => hb H2 (e.trans e2) _ fun H3 e3 => ⟨p, xs, i, v, rfl, rfl, st_of (e3 p _ hp), hv, q H3 (e2.trans e3)⟩
theorem rv_I0' {g : Int → Int → V} {i j : Int} (e : g i j = z) : RV (rI0 g) (.int i) (.int j) H z := by
  subst e
  exact rv_I0
/-! for over enumerate(xs) -/
variable {D : Ends} {tu tz : TS}
theorem s_forE {j1 j2 : Nat} {xs : List V} (h : Ev te σ H (.ref a)) (hx : SqL K H a xs) (Pv : Nat → L2.St → Hp → Prop) (h0 : ∀ H1, Ex H H1 → Pv 0 σ H1) (hl : ∀ i σ' H', i ≤ xs.length → Pv i σ' H' → SqL K H' a xs)
    (hs : ∀ (i : Nat) x σ' H' H2, xs[i]? = some x → Pv i σ' H' → Ex H' H2 → tu { D with nx := Pv (i + 1), ct := Pv (i + 1), bk := D.nx } ((σ'.set j1 (some (.int (i : Int)))).set j2 (some x)) H2) (hd : ∀ σ' H', Pv xs.length σ' H' → D.nx σ' H') :
    tFor (iEnum K (tCons te tNil)) (gTup K 2 (gCons (gName j1) (gCons (gName j2) gNil))) tu D σ H := h H (Ex.refl H) _ fun H1 e1 =>
  ⟨a, xs, rfl, ex_l e1 hx, for_it walk_enum Pv (h0 H1 e1) hl (fun i x σ' H' H2 hi p y => by
    obtain ⟨T, x1, x2, rfl, hT, rfl, e2, e3⟩ := y
    obtain rfl := Option.some.inj e2
    exact ⟨T, _, rfl, SqT.of upd_same, rfl, _, _, rfl, _, _, rfl, rfl, hs i x2 σ' H' _ e3 p (Ex.new hT)⟩) hd⟩
theorem q_forE {j1 j2 : Nat} {xs : List V} (h : Ev te σ H (.ref a)) (hx : SqL K H a xs) (Pv : Nat → L2.St → Hp → Prop) (h0 : ∀ H1, Ex H H1 → Pv 0 σ H1) (hl : ∀ i σ' H', i ≤ xs.length → Pv i σ' H' → SqL K H' a xs)
    (hs : ∀ (i : Nat) x σ' H' H2, xs[i]? = some x → Pv i σ' H' → Ex H' H2 → tu { D with nx := Pv (i + 1), ct := Pv (i + 1), bk := tz D } ((σ'.set j1 (some (.int (i : Int)))).set j2 (some x)) H2) (hd : ∀ σ' H', Pv xs.length σ' H' → tz D σ' H') :
    tSeq (tFor (iEnum K (tCons te tNil)) (gTup K 2 (gCons (gName j1) (gCons (gName j2) gNil))) tu) tz D σ H := s_forE (D := { D with nx := tz D }) h hx Pv h0 hl hs hd
/-! lists that are built -/
variable {Hs0 H0 Hs : Hp} {l : Addr} {xs : List V} {P : V → Hp → Prop}
theorem s_ext {i : Nat} (hσ : σ[i]? = some (some (.ref l))) (A : Acc Hs0 H0 l xs Hs H) (h : W (te σ) Hs P)
    (k : ∀ v Hs' H', Sep Hs H Hs' H' → P v Hs' → ∃ b zs, v = .ref b ∧ Hs' b = some (.lst zs) ∧ xs.length + zs.length ≤ 100000 ∧ ∀ H2, Acc Hs0 H0 l (xs ++ zs) Hs' H2 → D.nx σ H2) : tDrop (tBM K "list" rExtend (tVar i) (tCons te tNil)) D σ H :=
  ⟨.ref l, hσ, Or.inl ⟨rfl, xs, sq_of A.at_⟩, h H A.sep.s _ fun v Hs' H' s p => by
    obtain ⟨b, zs, rfl, hb, hz, q⟩ := k v Hs' H' s p
    exact ⟨l, b, xs, zs, rfl, rfl, (A.step s).at_, s.s b _ hb, sz_of hz, q _ (A.step s).put⟩⟩
theorem q_ext {i : Nat} (hσ : σ[i]? = some (some (.ref l))) (A : Acc Hs0 H0 l xs Hs H) (h : W (te σ) Hs P)
    (k : ∀ v Hs' H', Sep Hs H Hs' H' → P v Hs' → ∃ b zs, v = .ref b ∧ Hs' b = some (.lst zs) ∧ xs.length + zs.length ≤ 100000 ∧ ∀ H2, Acc Hs0 H0 l (xs ++ zs) Hs' H2 → tz D σ H2) : tSeq (tDrop (tBM K "list" rExtend (tVar i) (tCons te tNil))) tz D σ H :=
  s_ext (D := { D with nx := tz D }) hσ A h k
theorem s_appA {i : Nat} (hσ : σ[i]? = some (some (.ref l))) (A : Acc Hs0 H0 l xs Hs H) (h : W (te σ) Hs P) (hz : xs.length < 100000)
    (k : ∀ v Hs' H', Sep Hs H Hs' H' → P v Hs' → ∀ H2, Acc Hs0 H0 l (xs ++ [v]) Hs' H2 → D.nx σ H2) : tDrop (tBM K "list" rAppend (tVar i) (tCons te tNil)) D σ H :=
  ⟨.ref l, hσ, Or.inl ⟨rfl, xs, sq_of A.at_⟩, h H A.sep.s _ fun v Hs' H' s p => ⟨l, xs, v, rfl, rfl, (A.step s).at_, sz_lt hz, k v Hs' H' s p _ (A.step s).put⟩⟩
theorem q_appA {i : Nat} (hσ : σ[i]? = some (some (.ref l))) (A : Acc Hs0 H0 l xs Hs H) (h : W (te σ) Hs P) (hz : xs.length < 100000)
    (k : ∀ v Hs' H', Sep Hs H Hs' H' → P v Hs' → ∀ H2, Acc Hs0 H0 l (xs ++ [v]) Hs' H2 → tz D σ H2) : tSeq (tDrop (tBM K "list" rAppend (tVar i) (tCons te tNil))) tz D σ H := s_appA (D := { D with nx := tz D }) hσ A h hz k
/-- x = [] that will be built -/
theorem q_nil {i : Nat} (s : Sep Hs0 H0 Hs H) (k : ∀ l H2, H l = none → Acc Hs0 H0 l [] Hs H2 → tz D (σ.set i (some (.ref l))) H2) : tSeq (tAsg (tLst tNil) (gName i)) tz D σ H := ⟨Nat.zero_le _, fun p hp => k p _ hp (Acc.new s hp)⟩
/-- for over a list that a reading gives -/
theorem ws_forL {g : TG} (e : Ex Hs H) (h : W (tl σ) Hs P)
    (k : ∀ v Hs1 H1, Sep Hs H Hs1 H1 → P v Hs1 → ∃ (a : Addr) (xs : List V) (Pv : Nat → L2.St → Hp → Prop), v = .ref a ∧ SqL K H1 a xs ∧ Pv 0 σ H1 ∧ (∀ i σ' H', i ≤ xs.length → Pv i σ' H' → SqL K H' a xs) ∧
      (∀ i x σ' H', xs[i]? = some x → Pv i σ' H' → g x σ' H' fun σ2 H2 => tu { D with nx := Pv (i + 1), ct := Pv (i + 1), bk := D.nx } σ2 H2) ∧ (∀ σ' H', Pv xs.length σ' H' → D.nx σ' H')) : tFor (iList K tl) g tu D σ H :=
  h H e _ fun v Hs1 H1 s p => by
    obtain ⟨a, xs, Pv, rfl, hx, h0, hl, hs, hd⟩ := k v Hs1 H1 s p
    exact ⟨a, rfl, ⟨xs, hx⟩, for_list Pv h0 hl hs hd⟩
theorem wq_forL {g : TG} (e : Ex Hs H) (h : W (tl σ) Hs P)
    (k : ∀ v Hs1 H1, Sep Hs H Hs1 H1 → P v Hs1 → ∃ (a : Addr) (xs : List V) (Pv : Nat → L2.St → Hp → Prop), v = .ref a ∧ SqL K H1 a xs ∧ Pv 0 σ H1 ∧ (∀ i σ' H', i ≤ xs.length → Pv i σ' H' → SqL K H' a xs) ∧
      (∀ i x σ' H', xs[i]? = some x → Pv i σ' H' → g x σ' H' fun σ2 H2 => tu { D with nx := Pv (i + 1), ct := Pv (i + 1), bk := tz D } σ2 H2) ∧ (∀ σ' H', Pv xs.length σ' H' → tz D σ' H')) : tSeq (tFor (iList K tl) g tu) tz D σ H :=
  ws_forL (D := { D with nx := tz D }) e h k
end
/-! promises as readings -/
section
variable {sp : Sp} {vs : List V} {Hs : Hp} {P : V → Hp → Prop} {E : XK}
theorem w_sp (h : ∀ H, Ex Hs H → ∀ Q : VK, Ret Hs H P Q → sp vs H Q E) : W (fun H R => sp vs H R E) Hs P := fun H e R q => h H e R fun v Hs' H' s p => q v Hs' H' s p
end
end Lp
end
section
set_option Elab.async false
set_option linter.all false
set_option maxRecDepth 100000
set_option maxHeartbeats 2000000
set_option pp.maxSteps 3000
namespace Lp
open PySem PySem.Spec PyProof.Rows L2 Evl
/-! ### the class Case -/
theorem cF_steps (ls : Addr) (so w : Nat) : (caseF ls so w).lookup ("steps" : Str) = some (.ref ls) := lk_here
theorem cF_so (ls : Addr) (so w : Nat) : (caseF ls so w).lookup ("so" : Str) = some (.int (so : Nat)) := (lk_past (by decide +kernel)).trans lk_here
theorem cF_wanted (ls : Addr) (so w : Nat) : (caseF ls so w).lookup ("wanted" : Str) = some (.int (w : Nat)) := (lk_past (by decide +kernel)).trans ((lk_past (by decide +kernel)).trans lk_here)
theorem cF_no {m : Str} (h1 : (m == ("steps" : Str)) = false) (h2 : (m == ("so" : Str)) = false) (h3 : (m == ("wanted" : Str)) = false) (ls : Addr) (so w : Nat) : (caseF ls so w).lookup m = none := (lk_past h1).trans ((lk_past h2).trans ((lk_past h3).trans rfl))
theorem cF_new (ls : Addr) (so w : Nat) : putF "wanted" (.int (w : Nat)) (putF "so" (.int (so : Nat)) (putF "steps" (.ref ls) [])) = caseF ls so w := by
  have e1 : putF "so" (.int (so : Nat)) (putF "steps" (.ref ls) []) = ([("steps", V.ref ls), ("so", V.int (so : Nat))] : List (Str × V)) := (put_past (by decide +kernel)).trans rfl
  rw [e1]
  exact (put_past (by decide +kernel)).trans (congrArg _ ((put_past (by decide +kernel)).trans rfl))
def spCase (C : Addr) : Sp := fun vs H Q _ => ∃ (x dx ls : Addr) (so w : Nat), vs = [.ref x, .ref ls, .int (so : Nat), .int (w : Nat)] ∧ H x = some (.ins C dx []) ∧
  ∀ H' : Hp, H' x = some (.ins C dx (caseF ls so w)) → (∀ b o, H b = some o → b ≠ x → H' b = some o) → Q .non H'
def spTried (C : Addr) : Sp := fun vs H Q _ => ∃ (c r : Addr) (steps : List Pn.Act) (so w : Nat) (row : List Nat), vs = [.ref c, .ref r] ∧ CaseAt C H c steps so w ∧ H r = some (.lst (nV row)) ∧ (∀ j ∈ row, j < steps.length) ∧ row.length ≤ 1000 ∧
  ∀ p H2, H p = none → Ex H H2 → H2 p = some (.tup [.int ((tried steps w 0 so row).1 : Nat), .bl (tried steps w 0 so row).2]) → Q (.ref p) H2
def spFails (C : Addr) : Sp := fun vs H Q _ => ∃ (c r : Addr) (steps : List Pn.Act) (so w : Nat) (row : List Nat), vs = [.ref c, .ref r] ∧ CaseAt C H c steps so w ∧ H r = some (.lst (nV row)) ∧ (∀ j ∈ row, j < steps.length) ∧ row.length ≤ 1000 ∧
  RetV (.bl (fails steps so w row)) H Q
def spAllSteps (C : Addr) : Sp := fun vs H Q _ => ∃ (c : Addr) (steps : List Pn.Act) (so w : Nat), vs = [.ref c] ∧ CaseAt C H c steps so w ∧ steps.length ≤ 1000 ∧ RetL (nV (List.range steps.length)) H Q
section
variable {P : Program} {w : World} {K : PySem.W.Frag} {mg : Str → Option Value} {base : Heap}
theorem sc_ci : FnScope ["self", "steps", "so", "wanted"] ["self", "steps", "so", "wanted"] (defScope s_Case_init) := ⟨rfl, rfl, rfl, by decide +kernel, rfl, by decide +kernel, by decide +kernel⟩
theorem ok_case (T : All K mg) : FnOk P w K mg base CX0 1 T.Case_init.f T.Case_init.fd ["self", "steps", "so", "wanted"] (spCase T.Case) := by
  refine T.Case_init.F.ok sc_ci (fun vs H Q E h => ?_) (fun cdv A outer s H vs Q E hr h => ?_)
  · obtain ⟨x, dx, ls, so, w, rfl, _⟩ := h
    rfl
  · obtain ⟨x, dx, ls, so, wt, rfl, hx, k⟩ := h
    refine ⟨_, pss_cons (ps_fld (pv 0) (pv 1) rfl) (pss_cons (ps_fld (pv 0) (pv 2) rfl) (pss_one (ps_fld (pv 0) (pv 3) rfl))), ?_⟩
    refine ⟨_, rfl, _, rfl, x, T.Case, dx, _, rfl, hx, T.cl_Case, T.na_Case_steps, (by show 0 < 1000; decide), ?_⟩
    refine ⟨_, rfl, _, rfl, x, T.Case, dx, _, rfl, upd_same, T.cl_Case, T.na_Case_so, (by show 1 < 1000; decide), ?_⟩
    refine ⟨_, rfl, _, rfl, x, T.Case, dx, _, rfl, upd_same, T.cl_Case, T.na_Case_wanted, (by show 2 < 1000; decide), ?_⟩
    refine k _ ?_ fun b o e hb => ?_
    · rw [upd_same, cF_new]
    · rw [upd_ne hb, upd_ne hb, upd_ne hb]
      exact e
theorem sc_tried : FnScope ["self", "row", "state", "k", "step"] ["self", "row"] (defScope s_Case_tried) := ⟨rfl, rfl, rfl, by decide +kernel, rfl, by decide +kernel, by decide +kernel⟩
theorem tried_nil {steps : List Pn.Act} {w k s : Nat} : tried steps w k s [] = (k, decide (s &&& w = w)) := rfl
theorem tried_cons {steps : List Pn.Act} {w k s j : Nat} {r : List Nat} : tried steps w k s (j :: r) = if mayBe (steps.getD j noAct) s = true then tried steps w (k + 1) (behind (steps.getD j noAct) s) r else (k, false) := rfl
theorem ok_tried (T : All K mg) : FnOk P w K mg base CX0 2 T.Case_tried.f T.Case_tried.fd ["self", "row"] (spTried T.Case) := by
  refine T.Case_tried.F.ok sc_tried (fun vs H Q E h => ?_) (fun cdv A outer s H vs Q E hr h => ?_)
  · obtain ⟨c, r, steps, so, w, row, rfl, _⟩ := h
    rfl
  · obtain ⟨c, r, steps, so, wt, row, rfl, hc, hrow, hin, hlen, k⟩ := h
    obtain ⟨dx, ls, us, h1, h2, h3⟩ := hc.ex
    have hr1 : Room 1 _ := hr
    refine ⟨_, pss_cons (ps_set (i := 2) sc_tried.nd rfl (.inl rfl) (pe_fld (pv 0) rfl))
      (pss_cons (ps_for PassesOwn.never rfl (pi_enum (by rfl) T.z_enumerate (pa_cons (pv 1) pa_nil)) (pg_tup rfl (pgs_cons (pg_name (i := 3) sc_tried.nd rfl (.inl rfl)) (pgs_cons (pg_name (i := 4) sc_tried.nd rfl (.inl rfl)) pgs_nil)))
        (pss_cons (ps_if (pt_not (pt_val (pe_call (ok_may T) hr1 (by rfl) T.may_be_done.g T.may_be_done.F.kp T.may_be_done.b .nil pass0 (pa_cons (pe_ix ix_list (pe_fld (pv 0) rfl) (pv 4) (fun _ _ => rfl)) (pa_cons (pv 2) pa_nil)))))
            (pss_one (ps_ret (pe_tup (pa_cons (pv 3) (pa_cons pe_bl pa_nil))))) pss_nil)
        (pss_one (ps_set (i := 2) sc_tried.nd rfl (.inl rfl) (pe_call (ok_behind T) hr1 (by rfl) T.behind.g T.behind.F.kp T.behind.b .nil pass0 (pa_cons (pe_ix ix_list (pe_fld (pv 0) rfl) (pv 4) (fun _ _ => rfl)) (pa_cons (pv 2) pa_nil)))))))
      (pss_one (ps_ret (pe_tup (pa_cons (pe_callB call_len_seq (by rfl) T.z_len PySem.boot_len (pa_cons (pv 1) pa_nil))
        (pa_cons (pe_cmpR op_eq (pe_op op_and (pv 2) (pe_fld (pv 0) rfl)) (pe_fld (pv 0) rfl) (nomark _)) pa_nil)))))), ?_⟩
    refine q_asg (v := .int (so : Nat)) (ev_fld (ev_var rfl) h1 T.cl_Case T.na_Case_so (cF_so _ _ _)) fun H1 e1 => ?_
    refine q_forE (xs := nV row) (ev_var rfl) (sq_of (e1 _ _ hrow)) (fun i σ H' => Ex H H' ∧ ∃ (st : Nat) (v3 v4 : Option V), σ = [some (.ref c), some (.ref r), some (.int (st : Nat)), v3, v4] ∧ tried steps wt 0 so row = tried steps wt i st (row.drop i))
      (fun H2 e2 => ⟨e1.trans e2, so, none, none, rfl, rfl⟩) (fun i σ' H' _ p => sq_of (p.1 _ _ hrow)) ?_ ?_
    · rintro i x σ' H' H2 hi ⟨e0, st, v3, v4, rfl, ht⟩ e2
      have hj : ∃ j, row[i]? = some j ∧ x = .int (j : Nat) := by
        rw [List.getElem?_map] at hi
        cases q : row[i]? with
        | none => rw [q] at hi; cases hi
        | some j => rw [q] at hi; exact ⟨j, rfl, (Option.some.inj hi).symm⟩
      obtain ⟨j, hj, rfl⟩ := hj
      have hlt := (List.getElem?_eq_some_iff.mp hj).1
      have hjs : j < steps.length := hin j (List.mem_of_getElem? hj)
      have hd : row.drop i = j :: row.drop (i + 1) := by rw [List.drop_eq_getElem_cons hlt, (List.getElem?_eq_some_iff.mp hj).2]
      obtain ⟨u, hu, pa, rfl, hpa⟩ := h3.get' (List.getElem?_eq_getElem hjs)
      have hg : steps.getD j noAct = steps[j] := by rw [List.getD_eq_getElem?_getD, List.getElem?_eq_getElem hjs]; rfl
      have E2 : Ex H H2 := e0.trans e2
      rw [hd, tried_cons, hg] at ht
      have args : ∀ H3, Ex H2 H3 → EvA (tCons (tOp (rIxL K) (tFld K (tVar 0) "steps") (tVar 4)) (tCons (tVar 2) tNil)) [some (.ref c), some (.ref r), some (.int (st : Nat)), some (.int (i : Int)), some (.int (j : Nat))] H3 [.ref pa, .int (st : Nat)] := fun H3 e3 =>
        ea_cons (ev_op (ev_fld (ev_var rfl) (e3 _ _ (E2 _ _ h1)) T.cl_Case T.na_Case_steps (cF_steps _ _ _)) (ev_var rfl) (rv_ixL (sq_of (e3 _ _ (E2 _ _ h2))) (atI_nat hu))) (ea_cons (ev_var rfl) ea_nil)
      refine q_when (b := !(mayBe steps[j] st)) (et_not (et_B (ev_call (args H2 (Ex.refl _)) fun H3 e3 Q2 q2 E2' => ⟨pa, steps[j], st, rfl, e3 _ _ (E2 _ _ hpa), q2⟩))) ?_ ?_
      · intro hb H3 e3
        have hb' : mayBe steps[j] st = false := by simpa using hb
        rw [hb', if_neg Bool.false_ne_true] at ht
        refine s_retU (eu_tup (ea_cons (ev_var rfl) (ea_cons ev_c ea_nil)) (by show 2 ≤ 100000; decide)) fun p H4 hp e4 h4 => ?_
        refine k p H4 (fresh_back (E2.trans e3) hp) ((E2.trans e3).trans e4) ?_
        rw [h4, ht]
      · intro hb H3 e3
        have hb' : mayBe steps[j] st = true := by simpa using hb
        rw [hb', if_pos rfl] at ht
        refine s_asg (v := .int (behind steps[j] st : Nat)) (ev_call (args H3 e3) fun H4 e4 Q2 q2 E2' => ⟨pa, steps[j], st, rfl, e4 _ _ (e3 _ _ (E2 _ _ hpa)), q2⟩) fun H4 e4 => ?_
        exact ⟨(E2.trans e3).trans e4, behind steps[j] st, _, _, rfl, ht⟩
    · rintro σ' H' ⟨e0, st, v3, v4, rfl, ht⟩
      have e9 : (nV row).length = row.length := List.length_map ..
      rw [e9, List.drop_length, tried_nil] at ht
      refine s_retU (xs := [.int (row.length : Nat), .bl (decide (st &&& wt = wt))]) (eu_tup (ea_cons (ev_is (ev_len (ev_var rfl) (sq_of (e0 _ _ hrow))) ?_) (ea_cons ?_ ea_nil)) (by show 2 ≤ 100000; decide)) fun p H4 hp e4 h4 => ?_
      · rw [e9]
      · refine ev_is (ev_op (ev_op (ev_var rfl) (ev_fld (ev_var rfl) (e0 _ _ h1) T.cl_Case T.na_Case_wanted (cF_wanted _ _ _)) rv_I0) (ev_fld (ev_var rfl) (e0 _ _ h1) T.cl_Case T.na_Case_wanted (cF_wanted _ _ _)) (rv_eq rfl)) ?_
        rw [bit_and, dN]
      · refine k p H4 (fresh_back e0 hp) (e0.trans e4) ?_
        rw [h4, ht]
theorem sc_fails : FnScope ["self", "row"] ["self", "row"] (defScope s_Case_fails) := ⟨rfl, rfl, rfl, by decide +kernel, rfl, by decide +kernel, by decide +kernel⟩
theorem ok_fails (T : All K mg) : FnOk P w K mg base CX0 3 T.Case_fails.f T.Case_fails.fd ["self", "row"] (spFails T.Case) := by
  refine T.Case_fails.F.ok sc_fails (fun vs H Q E h => ?_) (fun cdv A outer s H vs Q E hr h => ?_)
  · obtain ⟨c, r, steps, so, w, row, rfl, _⟩ := h
    rfl
  · obtain ⟨c, r, steps, so, wt, row, rfl, hc, hrow, hin, hlen, k⟩ := h
    obtain ⟨dx, ls, us, h1, h2, h3⟩ := hc.ex
    refine ⟨_, pss_one (ps_ret (pe_not (pe_ix ix_tup (pe_meth (pv 0) T.cl_Case T.Case_tried.m (ok_tried T) hr T.Case_tried.b .nil pass0 (pa_cons (pv 1) pa_nil)) pe_int (fun _ _ => rfl)))), ?_⟩
    refine s_ret (v := .bl (fails steps so wt row)) (ev_notV (a := (tried steps wt 0 so row).2) (ev_ixU (xs := [.int ((tried steps wt 0 so row).1 : Nat), .bl (tried steps wt 0 so row).2]) (eu_meth (ev_var rfl) h1 (cF_no (by decide +kernel) (by decide +kernel) (by decide +kernel) _ _ _) (ea_cons (ev_var rfl) ea_nil) ?_) ev_c (atI_nat (j := 1) rfl))) ?_
    · exact fun H1 e1 Q1 q1 E1 => ⟨c, r, steps, so, wt, row, rfl, hc.up e1, e1 _ _ hrow, hin, hlen, q1⟩
    · exact k
theorem el_listRg {te : TE} {σ : L2.St} {H : Hp} {n : Nat} (h : Ev te σ H (.int (n : Int))) (hn : n ≤ 100000) : EvL (tLstRg (tRg1 te)) σ H (nV (List.range n)) := fun H1 e Q q =>
  h H1 e _ fun H2 e2 => ⟨(n : Int), rfl, RgOk.of_le (by omega) (by omega) (by omega) (by omega), fun l hl => by
    have e3 : rgV 0 (n : Int) = nV (List.range n) := by
      unfold rgV
      rw [show ((n : Int) - 0).toNat = n by omega]
      apply List.map_congr_left
      intro i _
      rw [Int.zero_add]
    rw [e3]
    exact q l _ (fresh_back e2 hl) (e2.trans (Ex.new hl)) upd_same⟩
theorem sc_all : FnScope ["self"] ["self"] (defScope s_Case_all_steps) := ⟨rfl, rfl, rfl, by decide +kernel, rfl, by decide +kernel, by decide +kernel⟩
theorem ok_all_steps (T : All K mg) : FnOk P w K mg base CX0 1 T.Case_all_steps.f T.Case_all_steps.fd ["self"] (spAllSteps T.Case) := by
  refine T.Case_all_steps.F.ok sc_all (fun vs H Q E h => ?_) (fun cdv A outer s H vs Q E hr h => ?_)
  · obtain ⟨c, steps, so, w, rfl, _⟩ := h
    rfl
  · obtain ⟨c, steps, so, wt, rfl, hc, hlen, k⟩ := h
    obtain ⟨dx, ls, us, h1, h2, h3⟩ := hc.ex
    refine ⟨_, pss_one (ps_ret (pe_listRg rfl (by rfl) T.z_list (prg_1 (by rfl) T.z_range (pe_callB call_len_seq (by rfl) T.z_len PySem.boot_len (pa_cons (pe_fld (pv 0) rfl) pa_nil))))), ?_⟩
    refine s_retL (xs := nV (List.range steps.length)) (el_listRg (ev_is (ev_len (ev_fld (ev_var rfl) h1 T.cl_Case T.na_Case_steps (cF_steps _ _ _)) (sq_of h2)) ?_) (by omega)) ?_
    · rw [h3.length]
    · exact k
end
end Lp
end
section
set_option Elab.async false
set_option linter.all false
set_option maxRecDepth 100000
set_option maxHeartbeats 2000000
set_option pp.maxSteps 3000
namespace Lp
open PySem PySem.Spec PyProof.Rows L2 Evl
section
variable {α : Type} {K : PySem.W.Frag} {σ : L2.St} {H Hs : Hp} {ta tb te tl : TE} {t : TT} {v x : V} {j : Nat} {vs : List Nat}
theorem et_yes : EvT tYes σ H true := fun H1 _ _ q => q H1 (Ex.refl H1)
theorem filter_all (l : List α) : l.filter (fun _ => true) = l := List.filter_eq_self.mpr fun _ _ => rfl
/-- a comprehension over a list, its items and what it gives told without the heap -/
theorem el_lcF {a : Addr} (ds : List α) (enc : α → V) (f : α → Bool) (g : α → V) (h : Ev tl σ Hs (.ref a)) (hx : SqL K Hs a (ds.map enc)) (hz : ds.length ≤ 40000) (hw : ∀ x, wipe ((wipe σ vs).set j (some x)) vs = wipe σ vs)
    (ht : ∀ d Hs2, d ∈ ds → Ex Hs Hs2 → EvT t ((wipe σ vs).set j (some (enc d))) Hs2 (f d)) (he : ∀ d Hs2, d ∈ ds → Ex Hs Hs2 → f d = true → Ev te ((wipe σ vs).set j (some (enc d))) Hs2 (g d)) :
    EvL (tLc (iList K tl) (gName j) t te vs) σ Hs ((ds.filter f).map g) := by
  refine el_w (w_lcD (S := fun d v _ => v = g d) (R := fun d v _ => v = enc d) (P0 := fun v _ => v = .ref a) f (fun _ _ _ _ _ r => r) (fun _ _ _ _ _ r => r) hw (w_ev h rfl) fun v Hs1 e1 hv => ?_)
  refine ⟨a, ds.map enc, ds, hv, ex_l e1 hx, by rw [List.length_map]; exact hz, All2.of_map (R := fun d v => v = enc d) enc (fun _ => rfl) ds, fun d y Hs2 hd e2 hy => ?_, fun d y Hs2 hd e2 hy hf => ?_, fun p us Hs2 e2 hp h2 al => ?_⟩
  · subst hy
    exact ht d Hs2 hd (e1.trans e2)
  · subst hy
    exact w_ev (he d Hs2 hd (e1.trans e2) hf) rfl
  · refine ⟨p, rfl, fresh_back e1 hp, ?_⟩
    rw [h2, al.eq_map]
/-- over a new list -/
theorem el_lcNF (ds : List α) (enc : α → V) (f : α → Bool) (g : α → V) (h : EvL tl σ Hs (ds.map enc)) (hz : ds.length ≤ 40000) (hw : ∀ x, wipe ((wipe σ vs).set j (some x)) vs = wipe σ vs)
    (ht : ∀ d Hs2, d ∈ ds → Ex Hs Hs2 → EvT t ((wipe σ vs).set j (some (enc d))) Hs2 (f d)) (he : ∀ d Hs2, d ∈ ds → Ex Hs Hs2 → f d = true → Ev te ((wipe σ vs).set j (some (enc d))) Hs2 (g d)) :
    EvL (tLc (iList K tl) (gName j) t te vs) σ Hs ((ds.filter f).map g) := by
  refine el_w (w_lcD (S := fun d v _ => v = g d) (R := fun d v _ => v = enc d) (P0 := fun v H => ∃ a, v = .ref a ∧ H a = some (.lst (ds.map enc))) f (fun _ _ _ _ _ r => r) (fun _ _ _ _ _ r => r) hw (w_evL h fun p Hs1 _ _ h1 => ⟨p, rfl, h1⟩) fun v Hs1 e1 hv => ?_)
  obtain ⟨a, rfl, ha⟩ := hv
  refine ⟨a, ds.map enc, ds, rfl, sq_of ha, by rw [List.length_map]; exact hz, All2.of_map (R := fun d v => v = enc d) enc (fun _ => rfl) ds, fun d y Hs2 hd e2 hy => ?_, fun d y Hs2 hd e2 hy hf => ?_, fun p us Hs2 e2 hp h2 al => ?_⟩
  · subst hy
    exact ht d Hs2 hd (e1.trans e2)
  · subst hy
    exact w_ev (he d Hs2 hd (e1.trans e2) hf) rfl
  · refine ⟨p, rfl, fresh_back e1 hp, ?_⟩
    rw [h2, al.eq_map]
/-- over range(n) -/
theorem el_lcRF {ta : TA} {n : Nat} (f : Nat → Bool) (g : Nat → V) (h : EvA ta σ Hs [.int (n : Int)]) (hn : n ≤ 40000) (hw : ∀ x, wipe ((wipe σ vs).set j (some x)) vs = wipe σ vs)
    (ht : ∀ (d : Nat) Hs2, d < n → Ex Hs Hs2 → EvT t ((wipe σ vs).set j (some (.int (d : Int)))) Hs2 (f d)) (he : ∀ (d : Nat) Hs2, d < n → Ex Hs Hs2 → f d = true → Ev te ((wipe σ vs).set j (some (.int (d : Int)))) Hs2 (g d)) :
    EvL (tLc (iRng1 ta) (gName j) t te vs) σ Hs (((List.range n).filter f).map g) := by
  refine el_w (w_lcR (S := fun d v _ => v = g d) f (fun _ _ _ _ _ r => r) h hn hw ht (fun d Hs2 hd e2 hf => w_ev (he d Hs2 hd e2 hf) rfl) fun p us Hs2 e2 hp h2 al => ?_)
  refine ⟨p, rfl, hp, ?_⟩
  rw [h2, al.eq_map]
theorem ev_sum {ns : List Int} (h : EvL te σ H (ns.map V.int)) : Ev (tCB (rSum K) (tCons te tNil)) σ H (.int ns.sum) := fun H1 e Q q => h H1 e _ fun p H2 _ e2 hp => ⟨p, ns, rfl, sq_of hp, q H2 e2⟩
theorem ev_any {bs : List Bool} (h : EvL te σ H (bs.map V.bl)) : Ev (tCB (rAny K) (tCons te tNil)) σ H (.bl (bs.any id)) := fun H1 e Q q => h H1 e _ fun p H2 _ e2 hp => ⟨p, bs, rfl, sq_of hp, q H2 e2⟩
theorem ev_all {bs : List Bool} (h : EvL te σ H (bs.map V.bl)) : Ev (tCB (rAll K) (tCons te tNil)) σ H (.bl (bs.all id)) := fun H1 e Q q => h H1 e _ fun p H2 _ e2 hp => ⟨p, bs, rfl, sq_of hp, q H2 e2⟩
theorem sum_nat (f : Nat → Nat) : ∀ l : List Nat, (l.map fun j => ((f j : Nat) : Int)).sum = (((l.map f).sum : Nat) : Int)
  | [] => rfl
  | a :: l => by
    rw [List.map_cons, List.sum_cons, sum_nat f l, List.map_cons, List.sum_cons]
    omega
theorem max_is {ns : List Nat} {m : Int} (hm : m ∈ ns.map fun n : Nat => (n : Int)) (hle : ∀ y, y ∈ (ns.map fun n : Nat => (n : Int)) → y ≤ m) : m = ((ns.foldl max 0 : Nat) : Int) := by
  have h1 : ∀ (l : List Nat) (a : Nat), a ≤ l.foldl max a ∧ (∀ y ∈ l, y ≤ l.foldl max a) ∧ (l.foldl max a = a ∨ l.foldl max a ∈ l) := by
    intro l
    induction l with
    | nil => intro a; simp
    | cons b l ih =>
      intro a
      obtain ⟨i1, i2, i3⟩ := ih (max a b)
      rw [List.foldl_cons]
      refine ⟨by omega, fun y hy => ?_, ?_⟩
      · rcases List.mem_cons.mp hy with rfl | hy
        · omega
        · exact i2 y hy
      · rcases i3 with e | e
        · rw [e]
          by_cases c : a ≤ b
          · right; rw [Nat.max_eq_right c]; exact List.mem_cons_self
          · left; omega
        · right; exact List.mem_cons_of_mem _ e
  obtain ⟨n, hn, rfl⟩ := List.mem_map.mp hm
  obtain ⟨_, i2, i3⟩ := h1 ns 0
  have j1 := i2 n hn
  rcases i3 with e | e
  · omega
  · have := hle _ (List.mem_map.mpr ⟨_, e, rfl⟩)
    omega
/-- max(xs) of numbers: the greatest -/
theorem ev_max {ns : List Nat} (h : EvL te σ H (nV ns)) (hn : 0 < ns.length) : Ev (tCB (rMax K) (tCons te tNil)) σ H (.int ((ns.foldl max 0 : Nat) : Int)) := fun H1 e Q q => h H1 e _ fun p H2 _ e2 hp =>
  ⟨p, ns.map fun n : Nat => (n : Int), rfl, by
    rw [List.map_map]
    exact sq_of hp, by rw [List.length_map]; exact hn, fun m hm hle => by
    rw [max_is hm hle]
    exact q H2 e2⟩
theorem inV_nat (s : Nat) : ∀ row : List Nat, inV (.int (s : Nat)) (nV row) = row.contains s
  | [] => rfl
  | a :: l => by
    have ih := inV_nat s l
    unfold inV at ih ⊢
    show (eqV (.int (a : Nat)) (.int (s : Nat)) || (nV l).any fun y => eqV y (.int (s : Nat))) = _
    rw [ih, List.contains_cons]
    congr 1
    show decide ((a : Int) = (s : Int)) = (s == a)
    by_cases c : s = a
    · subst c; simp
    · rw [decide_eq_false (by omega)]
      exact (beq_eq_false_iff_ne.mpr c).symm
theorem flat_nat : ∀ row : List Nat, (nV row).all flatV = true
  | [] => rfl
  | a :: l => by
    show (flatV (.int (a : Nat)) && (nV l).all flatV) = true
    rw [flat_nat l]
    rfl
end
end Lp
end
section
set_option Elab.async false
set_option linter.all false
set_option maxRecDepth 100000
set_option maxHeartbeats 2000000
set_option pp.maxSteps 3000
namespace Lp
open PySem PySem.Spec PyProof.Rows L2 Evl
/-! ### members -/
def spMembers : Sp := fun vs H Q _ => ∃ (some many : Nat), vs = [.int (some : Nat), .int (many : Nat)] ∧ many ≤ 1000 ∧ RetL (nV (members some many)) H Q
theorem bit_at (n k : Nat) : decide (V.int (Builtin.bitAnd ((n : Int) / 2 ^ ((k : Int)).toNat) 1) = V.int 1) = n.testBit k := by
  have e1 : ((n : Int) / 2 ^ ((k : Int)).toNat) = ((n / 2 ^ k : Nat) : Int) := by
    rw [Int.toNat_natCast]
    simp
  rw [e1]
  have e2 : Builtin.bitAnd ((n / 2 ^ k : Nat) : Int) 1 = ((n / 2 ^ k &&& 1 : Nat) : Int) := bit_and _ 1
  rw [e2]
  have e3 : decide (V.int ((n / 2 ^ k &&& 1 : Nat) : Int) = V.int 1) = decide (n / 2 ^ k &&& 1 = 1) := dN _ 1
  rw [e3]
  unfold Nat.testBit
  rw [Nat.shiftRight_eq_div_pow, Nat.and_comm]
  have h : 1 &&& n / 2 ^ k = (n / 2 ^ k) % 2 := by rw [Nat.and_comm, Nat.and_one_is_mod]
  rw [h]
  rcases Nat.mod_two_eq_zero_or_one (n / 2 ^ k) with c | c
  · rw [c]; rfl
  · rw [c]; rfl
section
variable {P : Program} {w : World} {K : PySem.W.Frag} {mg : Str → Option Value} {base : Heap}
theorem sc_members : FnScope ["some", "many", "step"] ["some", "many"] (defScope s_members) := ⟨rfl, rfl, rfl, by decide +kernel, rfl, by decide +kernel, by decide +kernel⟩
theorem ok_members (T : All K mg) : FnOk P w K mg base CX0 1 T.members.f T.members.fd ["some", "many"] spMembers := by
  refine T.members.F.ok sc_members (fun vs H Q E h => ?_) (fun cdv A outer s H vs Q E hr h => ?_)
  · obtain ⟨s, m, rfl, _⟩ := h
    rfl
  · obtain ⟨sm, many, rfl, hm, k⟩ := h
    refine ⟨_, pss_one (ps_ret (pe_lc (own := [("step", 2)]) (g := gName 2) rfl sc_members.nd (pi_range1 (by rfl) T.z_range (pa_cons (pv 1) pa_nil)) (blkOk_by (N := ["some", "many", "step"]) (sc := defScope s_members) (by decide +kernel))
      (fun _ _ _ _ _ => pg_name (i := 2) sc_members.nd rfl (.inl rfl)) (fun _ _ _ _ _ => pts_one (pt_cmpR op_eq (pe_op op_and (pe_op op_shr (pv 0) (pv 2)) pe_int) pe_int (nomark _))) (fun _ _ _ _ _ => pv 2))), ?_⟩
    refine s_retL (xs := nV (members sm many)) (el_lcRF (n := many) (fun s => sm.testBit s) (fun n => V.int (n : Int)) (ea_cons (ev_var rfl) ea_nil) (by omega) (fun _ => rfl) (fun d Hs2 hd e2 => ?_) (fun d Hs2 hd e2 _ => ev_var rfl)) ?_
    · refine et_test (ev_is (ev_op (ev_op (ev_op (ev_var rfl) (ev_var rfl) (rv_I (by omega))) ev_c rv_I0) ev_c (rv_eq rfl)) ?_)
      rw [bit_at]
    · exact k
/-! ### rows_of -/
def spRows : Sp := fun vs H Q _ => ∃ (Hs : Hp) (a : Addr) (o : List Nat), vs = [.ref a] ∧ Ex Hs H ∧ Hs a = some (.lst (nV o)) ∧ o.length ≤ 5 ∧ Ret Hs H (rLs rNs (rowsOf o)) Q
theorem rowsTo_in {o : List Nat} : ∀ {k : Nat} {row : List Nat}, row ∈ rowsTo o k → (∀ j ∈ row, j < o.length) ∧ row.length = k
  | 0, row, h => by
    have e : row = [] := by simpa [rowsTo] using h
    subst e
    simp
  | k + 1, row, h => by
    unfold rowsTo at h
    obtain ⟨r, hr, h⟩ := List.mem_flatMap.mp h
    obtain ⟨s, hs, rfl⟩ := List.mem_map.mp h
    obtain ⟨h1, h2⟩ := rowsTo_in hr
    have h3 := List.mem_range.mp (List.mem_filter.mp hs).1
    refine ⟨fun j hj => ?_, by simp [h2]⟩
    rcases List.mem_append.mp hj with q | q
    · exact h1 j q
    · have e : j = s := by simpa using q
      rw [e]
      exact h3
theorem flatMap_le {α β : Type} (f : α → List β) (n : Nat) (h : ∀ a, (f a).length ≤ n) : ∀ l : List α, (l.flatMap f).length ≤ l.length * n
  | [] => by simp
  | a :: l => by
    have ih := flatMap_le f n h l
    have := h a
    rw [List.flatMap_cons, List.length_append, List.length_cons, Nat.succ_mul]
    omega
theorem cand_le (o row : List Nat) : (cand o row).length ≤ o.length := by
  unfold cand
  refine Nat.le_trans (List.length_filter_le _ _) ?_
  rw [List.length_range]
  exact Nat.le_refl _
theorem rowsTo_le (o : List Nat) (h : o.length ≤ 5) : ∀ k, (rowsTo o k).length ≤ 5 ^ k
  | 0 => by simp [rowsTo]
  | k + 1 => by
    have ih := rowsTo_le o h k
    unfold rowsTo
    refine Nat.le_trans (flatMap_le _ 5 (fun row => ?_) _) ?_
    · rw [List.length_map]
      exact Nat.le_trans (cand_le o row) h
    · rw [Nat.pow_succ]
      exact Nat.mul_le_mul_right _ ih
theorem rowsOf_le (o : List Nat) (h : o.length ≤ 5) : (rowsOf o).length ≤ 3125 := Nat.le_trans (rowsTo_le o h _) (Nat.le_trans (Nat.pow_le_pow_right (by decide) h) (by decide))
theorem rowsTo_len {o : List Nat} (h : o.length ≤ 5) {k : Nat} (hk : k ≤ 5) : (rowsTo o k).length ≤ 3125 := Nat.le_trans (rowsTo_le o h _) (Nat.le_trans (Nat.pow_le_pow_right (by decide) hk) (by decide))
theorem sc_rows : FnScope ["order", "found", "turn", "longer", "row", "done", "some", "step"] ["order"] (defScope s_rows_of) := ⟨rfl, rfl, rfl, by decide +kernel, rfl, by decide +kernel, by decide +kernel⟩
abbrev N_rows : List Str := ["order", "found", "turn", "longer", "row", "done", "some", "step"]
/-- what the inner loop has built -/
def grown (o : List Nat) (l : List (List Nat)) : List (List Nat) := l.flatMap fun row => (cand o row).map fun s => row ++ [s]
theorem ok_rows_of (T : All K mg) : FnOk P w K mg base CX0 1 T.rows_of.f T.rows_of.fd ["order"] spRows := by
  refine T.rows_of.F.ok sc_rows (fun vs H Q E h => ?_) (fun cdv A outer s H vs Q E hr h => ?_)
  · obtain ⟨Hs, a, o, rfl, _⟩ := h
    rfl
  · obtain ⟨Hs, a, o, rfl, eH, ha, hlen, k⟩ := h
    refine ⟨_, pss_cons (ps_set (i := 1) sc_rows.nd rfl (.inl rfl) (pe_lst (pa_cons (pe_lst pa_nil) pa_nil)))
      (pss_cons (ps_for PassesOwn.never rfl (pi_range1 (by rfl) T.z_range (pa_cons (pe_callB call_len_seq (by rfl) T.z_len PySem.boot_len (pa_cons (pv 0) pa_nil)) pa_nil)) (pg_name (i := 2) sc_rows.nd rfl (.inl rfl))
        (pss_cons (ps_set (i := 3) sc_rows.nd rfl (.inl rfl) (pe_lst pa_nil))
        (pss_cons (ps_for PassesOwn.never rfl (pi_list (pv 1)) (pg_name (i := 4) sc_rows.nd rfl (.inr rfl))
          (pss_cons (ps_set (i := 5) sc_rows.nd rfl (.inr rfl) (pe_callB (cr_sum rfl) (by rfl) T.z_sum (by decide +kernel) (pa_cons (pe_lc (own := [("step", 7)]) (g := gName 7) (tt := tYes) rfl sc_rows.nd (pi_list (pv 4)) (blkOk_by (N := N_rows) (sc := defScope s_rows_of) (by decide +kernel))
              (fun _ _ _ _ _ => pg_name (i := 7) sc_rows.nd rfl (.inl rfl)) (fun _ _ _ _ _ => pts_nil) (fun _ _ _ _ _ => pe_op op_shl pe_int (pv 7))) pa_nil)))
          (pss_cons (ps_setLc (i := 6) (own := [("step", 7)]) (g := gName 7) rfl sc_rows.nd rfl rfl (sw_true rfl rfl rfl (by decide +kernel))
              (pi_range1 (by rfl) T.z_range (pa_cons (pe_callB call_len_seq (by rfl) T.z_len PySem.boot_len (pa_cons (pv 0) pa_nil)) pa_nil)) (blkOk_by (N := N_rows) (sc := defScope s_rows_of) (by decide +kernel))
              (fun _ _ _ _ _ => pg_name (i := 7) sc_rows.nd rfl (.inl rfl))
              (fun _ _ _ _ _ => pts_one (PW.pt (pw_and (pt_cmpR (r := rIn K true) op_notIn_seq (pv 7) (pv 4) (by rfl)) (pw_and1 (pt_cmpR op_eq (pe_op op_and (pe_ix (r := rIxL K) ix_list (pv 0) (pv 7) (fun _ _ => rfl)) (pe_un un_inv (pv 5))) pe_int (nomark _))))))
              (fun _ _ _ _ _ => pv 7))
          (pss_one (ps_expr (pe_bm PySem.F.plainAttrs_list PySem.F.slot_list_extend PySem.F.type_list_extend mt_extend (pv 3) (pa_cons (pe_lc (own := [("step", 7)]) (g := gName 7) (tt := tYes) rfl sc_rows.nd (pi_list (pv 6)) (blkOk_by (N := N_rows) (sc := defScope s_rows_of) (by decide +kernel))
              (fun _ _ _ _ _ => pg_name (i := 7) sc_rows.nd rfl (.inl rfl)) (fun _ _ _ _ _ => pts_nil) (fun _ _ _ _ _ => pe_op op_cat (pv 4) (pe_lst (pa_cons (pv 7) pa_nil)))) pa_nil)))))))
        (pss_one (ps_set (i := 1) sc_rows.nd rfl (.inl rfl) (pv 3))))))
      (pss_one (ps_ret (pv 1)))), ?_⟩
    have hlo : (nV o).length = o.length := List.length_map ..
    -- found = [[]]
    refine wq_asg (P := rLs rNs [[]]) eH (w_lst (PA := fun vs H => ∃ v, vs = [v] ∧ rNs [] v H) (wa_cons (P := rNs []) (w_evL (el_lst ea_nil (by decide)) fun p Hs1 _ _ h1 => ⟨p, rfl, h1⟩) fun x Hs1 e1 hx => wa_nil ⟨x, rfl, hx⟩)
      (fun vs H ⟨v, e, _⟩ => by rw [e]; show 1 ≤ 100000; decide) fun vs Hs1 p Hs2 e1 hv e2 hp h2 => ?_) fun v Hs1 H1 s1 hv => ?_
    · obtain ⟨v, rfl, hv⟩ := hv
      exact ⟨p, [v], rfl, h2, .cons (hv.up e2) .nil⟩
    -- for turn in range(len(order))
    refine q_forR1 (n := (o.length : Nat)) (ea_cons (ev_is (ev_len (ev_var rfl) (sq_of (eH _ _ ha))) (by rw [hlo])) ea_nil |>.mono s1.h) (by omega)
      (fun i σ H' => ∃ (v : V) (Hs' : Hp) (v2 v3 v4 v5 v6 : Option V), σ = [some (.ref a), some v, v2, v3, v4, v5, v6, none] ∧ Sep Hs H Hs' H' ∧ rLs rNs (rowsTo o i) v Hs')
      (fun H2 e2 => ⟨v, Hs1, none, none, none, none, none, rfl, s1.ext e2, hv⟩) ?_ ?_
    · rintro i σ' H' hi ⟨v, Hs', v2, v3, v4, v5, v6, rfl, s2, f, vs, rfl, hf, al⟩
      have hi' : i < o.length := by omega
      have hfl := al.length
      have hcount := rowsTo_len (k := i) hlen (by omega)
      -- longer = []
      refine q_nil s2 fun l H2 hl A => ?_
      -- for row in found
      refine q_forLn (ev_var rfl) (sq_of (A.sep.s _ _ hf)) (fun j σ H' => ∃ (Hs'' : Hp) (us : List V) (w4 w5 w6 : Option V), σ = [some (.ref a), some (.ref f), some (.int (i : Nat)), some (.ref l), w4, w5, w6, none] ∧ Acc Hs H l us Hs'' H' ∧ Ex Hs' Hs'' ∧ All2 (fun d u => rNs d u Hs'') (grown o ((rowsTo o i).take j)) us)
        (fun H3 e3 => ⟨Hs', [], v4, v5, v6, rfl, A.ext e3, Ex.refl _, .nil⟩) (fun j σ3 H3 _ ⟨Hs'', us, w4, w5, w6, _, A3, e3, _⟩ => sq_of (A3.sep.s _ _ (e3 _ _ hf))) ?_ ?_
      · rintro j x σ3 H3 hj ⟨Hs3, us, w4, w5, w6, rfl, A3, e3, al3⟩
        obtain ⟨row, hrow, r, rfl, hr2⟩ := al.get hj
        have hr3 : Hs3 r = some (.lst (nV row)) := e3 _ _ hr2
        have hmem := List.mem_of_getElem? hrow
        obtain ⟨hin, hrl⟩ := rowsTo_in hmem
        have hjlt := (List.getElem?_eq_some_iff.mp hrow).1
        -- done = sum(..)
        refine wq_asg (P := fun v _ => v = .int (maskOf row : Nat)) A3.sep.s (w_ev (ev_is (ev_sum (ns := row.map fun j => ((2 ^ j : Nat) : Int)) ?_) ?_) rfl) fun v Hs4 H4 s4 hv4 => ?_
        · have h := el_lcF (K := K) (σ := [some (.ref a), some (.ref f), some (.int (i : Nat)), some (.ref l), some (.ref r), w5, w6, none]) (Hs := Hs3) (tl := tVar 4) (t := tYes) (te := tOp (rI CPow fun i j => V.int (i * 2 ^ j.toNat)) (tC (V.int 1)) (tVar 7)) (j := 7) (vs := [7])
            row (fun n => V.int ((n : Nat) : Int)) (fun _ => true) (fun n => V.int ((2 ^ n : Nat) : Int)) (ev_var rfl) (sq_of hr3) (by omega) (fun _ => rfl) (fun _ _ _ _ => et_yes) (fun d Hs2 hd e2 _ => ?_)
          · rw [filter_all] at h
            rw [List.map_map]
            exact h
          · have hd5 := hin d hd
            refine ev_is (ev_op ev_c (ev_var rfl) (rv_I ⟨by omega, by omega, by decide⟩)) ?_
            rw [shl_nat]
        · rw [sum_nat (fun j => 2 ^ j) row]
          rfl
        subst hv4
        have A4 := A3.step s4
        have hr4 := s4.k _ _ hr3
        have ha4 : Hs4 a = some (.lst (nV o)) := A4.sep.k _ _ ha
        -- some = [..]
        refine wq_asg (P := rNs (cand o row)) A4.sep.s (w_evL (el_lcRF (n := o.length) (fun s => !row.contains s && sub (o.getD s 0) (maskOf row)) (fun n => V.int (n : Int)) (ea_cons (ev_is (ev_len (ev_var rfl) (sq_of ha4)) (by rw [hlo])) ea_nil) (by omega) (fun _ => rfl) (fun d Hs5 hd e5 => ?_) (fun d Hs5 hd e5 _ => ev_var rfl))
          fun p Hs5 _ _ h5 => ⟨p, rfl, h5⟩) fun v Hs5 H5 s5 hv5 => ?_
        · have hod : (nV o)[d]? = some (.int (o.getD d 0 : Nat)) := by rw [List.getElem?_map, List.getD_eq_getElem?_getD, List.getElem?_eq_getElem hd]; rfl
          refine et_and (a := !row.contains d) (b := sub (o.getD d 0) (maskOf row)) (et_test (ev_is (ev_op (ev_var rfl) (ev_var rfl) (rv_niL (sq_of (e5 _ _ hr4)) rfl (flat_nat _))) ?_)) fun _ => et_test (ev_is (ev_op (ev_op (ev_op (ev_var rfl) (ev_var rfl) (rv_ixL (sq_of (e5 _ _ ha4)) (atI_nat hod))) (ev_un (ev_var rfl) (fun H1 _ _ q => ⟨_, rfl, q H1 (Ex.refl H1)⟩)) rv_I0) ev_c (rv_eq rfl)) ?_)
          · rw [inV_nat]
          · rw [bit_andNot]
            exact congrArg V.bl (dN _ 0)
        obtain ⟨so, rfl, hso⟩ := hv5
        have A5 := A4.step s5
        have hr5 := s5.k _ _ hr4
        -- longer.extend(..)
        refine s_ext (P := rLs rNs ((cand o row).map fun s => row ++ [s])) rfl A5 (w_lcD (S := fun s v H => rNs (row ++ [s]) v H) (R := fun s v _ => v = .int (s : Nat)) (P0 := fun v _ => v = .ref so) (fun _ => true) (fun d v H H' e r => r.up e) (fun _ _ _ _ _ r => r) (fun _ => rfl) (w_ev (ev_var rfl) rfl) fun v Hs6 e6 hv6 => ?_) fun v Hs6 H6 s6 hv6 => ?_
        · refine ⟨so, nV (cand o row), cand o row, hv6, sq_of (e6 _ _ hso), by rw [List.length_map]; exact Nat.le_trans (cand_le _ _) (by omega), All2.of_map (R := fun (s : Nat) (v : V) => v = V.int (s : Int)) (fun s => V.int (s : Int)) (fun _ => rfl) _, fun _ _ _ _ _ _ => et_yes, fun d y Hs7 hd e7 hy _ => ?_, fun p us Hs7 e7 hp h7 al7 => ?_⟩
          · subst hy
            have hr7 := e7 _ _ (e6 _ _ hr5)
            refine w_op (P := fun v _ => v = .ref r) (w_ev (ev_var rfl) rfl) fun x Hs8 e8 hx => ?_
            subst hx
            refine w_op2 (P' := rNs [d]) (w_evL (el_lst (ea_cons (ev_var rfl) ea_nil) (by show 1 ≤ 100000; decide)) fun p Hs9 _ _ h9 => ⟨p, rfl, h9⟩) fun y Hs9 e9 hy => ?_
            obtain ⟨q, rfl, hq⟩ := hy
            intro H e R q2
            refine ⟨r, q, nV row, nV [d], rfl, rfl, e _ _ (e9 _ _ (e8 _ _ hr7)), e _ _ hq, ?_, fun p hp => q2 (.ref p) _ _ (Sep.new e hp) ⟨p, rfl, ?_⟩⟩
            · have h1 : (nV row).length = row.length := List.length_map ..
              have h2 : (nV [d]).length = 1 := rfl
              rw [h1, h2]
              exact sz_of (by omega)
            · rw [upd_same]
              simp
          · rw [filter_all] at al7
            refine ⟨p, us, rfl, h7, ?_⟩
            have : ∀ (l : List Nat) (us : List V), All2 (fun s v => rNs (row ++ [s]) v Hs7) l us → All2 (fun d u => rNs d u Hs7) (l.map fun s => row ++ [s]) us := by
              intro l us h
              induction h with
              | nil => exact .nil
              | cons r _ ih => exact .cons r ih
            exact this _ _ al7
        · obtain ⟨b, zs, rfl, hb, alz⟩ := hv6
          have hzl := alz.length
          have hul := al3.length
          rw [List.length_map] at hzl
          have hcl := cand_le o row
          have hg : (grown o ((rowsTo o i).take j)).length ≤ 3125 * 5 := by
            refine Nat.le_trans (flatMap_le _ 5 (fun row => ?_) _) (Nat.mul_le_mul_right _ (Nat.le_trans ?_ hcount))
            · rw [List.length_map]
              exact Nat.le_trans (cand_le o row) hlen
            · rw [List.length_take]
              exact Nat.min_le_right _ _
          refine ⟨b, zs, rfl, hb, by omega, fun H7 A7 => ?_⟩
          refine ⟨Hs6, us ++ zs, _, _, _, rfl, A7, (e3.trans s4.k).trans (s5.k.trans s6.k), ?_⟩
          have e9 : grown o ((rowsTo o i).take (j + 1)) = grown o ((rowsTo o i).take j) ++ (cand o row).map fun s => row ++ [s] := by
            unfold grown
            rw [take_more hrow, List.flatMap_append]
            simp
          rw [e9]
          exact (al3.mono fun d u r => r.up (s4.k.trans (s5.k.trans s6.k))).append alz
      · rintro σ3 H3 ⟨Hs3, us, w4, w5, w6, rfl, A3, e3, al3⟩
        refine s_asg (v := .ref l) (ev_var rfl) fun H4 e4 => ?_
        refine ⟨.ref l, upd Hs3 l (.lst us), _, _, _, _, _, rfl, (A3.ext e4).done, l, us, rfl, upd_same, ?_⟩
        rw [← hfl, List.take_length] at al3
        exact al3.mono fun d u r => r.up A3.e
    · rintro σ' H' ⟨v, Hs', v2, v3, v4, v5, v6, rfl, s2, hv⟩
      refine ws_ret (P := rLs rNs (rowsOf o)) s2.s (w_ev (ev_var rfl) ?_) fun v Hs3 H3 s3 hv3 => k v Hs3 H3 (s2.trans s3) hv3
      rw [show ((o.length : Nat) : Int).toNat = o.length by omega] at hv
      exact hv
end
end Lp
end
section
set_option Elab.async false
set_option linter.all false
set_option maxRecDepth 100000
set_option maxHeartbeats 2000000
set_option pp.maxSteps 3000
namespace Lp
open PySem PySem.Spec PyProof.Rows L2 Evl
theorem nV_len (l : List Nat) : (nV l).length = l.length := List.length_map ..
theorem nV_at {l : List Nat} {d : Nat} (h : d < l.length) : (nV l)[d]? = some (.int (l.getD d 0 : Nat)) := by
  rw [List.getElem?_map, List.getD_eq_getElem?_getD, List.getElem?_eq_getElem h]
  rfl
theorem nV_get {l : List Nat} {i : Nat} {x : V} (h : (nV l)[i]? = some x) : ∃ d, l[i]? = some d ∧ x = .int (d : Nat) := by
  rw [List.getElem?_map] at h
  cases q : l[i]? with
  | none => rw [q] at h; cases h
  | some j => rw [q] at h; exact ⟨j, rfl, (Option.some.inj h).symm⟩
theorem zeros_map {α : Type} {us : List V} {steps : List α} (h : steps.length = us.length) : us.map (fun _ => V.int 0) = nV (steps.map fun _ => 0) := by
  rw [nV, List.map_map]
  have e1 : us.map (fun _ => V.int 0) = List.replicate us.length (V.int 0) := List.map_const' ..
  have e2 : steps.map ((fun n : Nat => V.int (n : Int)) ∘ fun _ => 0) = List.replicate steps.length (V.int 0) := List.map_const' ..
  rw [e1, e2, h]
theorem map_id' (l : List V) : l.map (fun x => x) = l := List.map_id' l
theorem ev_lenI {K : PySem.W.Frag} {ta : TE} {σ : L2.St} {H : Hp} {p : Addr} {l : List Nat} (ha : Ev ta σ H (.ref p)) (h : H p = some (.lst (nV l))) : Ev (tCB (rLenS K) (tCons ta tNil)) σ H (.int (l.length : Int)) := by
  have q := ev_len (K := K) ha (sq_of h)
  rw [nV_len] at q
  exact q
/-! ### failing -/
def spFailing (C : Addr) : Sp := fun vs H Q _ => ∃ (Hs : Hp) (c : Addr) (steps : List Pn.Act) (so w : Nat), vs = [.ref c] ∧ Ex Hs H ∧ CaseAt C Hs c steps so w ∧ steps.length ≤ 5 ∧ Ret Hs H (rLs rNs (failing steps so w)) Q
theorem rLs_filter {f : List Nat → Bool} {l : List (List Nat)} : True := trivial
section
variable {P : Program} {w : World} {K : PySem.W.Frag} {mg : Str → Option Value} {base : Heap}
theorem sc_failing : FnScope ["self", "row", "step"] ["self"] (defScope s_Case_failing) := ⟨rfl, rfl, rfl, by decide +kernel, rfl, by decide +kernel, by decide +kernel⟩
abbrev N_failing : List Str := ["self", "row", "step"]
theorem ok_failing (T : All K mg) : FnOk P w K mg base CX0 4 T.Case_failing.f T.Case_failing.fd ["self"] (spFailing T.Case) := by
  refine T.Case_failing.F.ok sc_failing (fun vs H Q E h => ?_) (fun cdv A outer s H vs Q E hr h => ?_)
  · obtain ⟨Hs, c, steps, so, w, rfl, _⟩ := h
    rfl
  · obtain ⟨Hs, c, steps, so, wt, rfl, eH, hc, hlen, k⟩ := h
    obtain ⟨dx, ls, us, h1, h2, h3⟩ := hc.ex
    have hul := h3.length
    refine ⟨_, pss_one (ps_ret (pe_lc (own := [("row", 1)]) (g := gName 1) rfl sc_failing.nd
      (pi_list (pe_call (ok_rows_of T) (hr.mono (by decide)) (by rfl) T.rows_of.g T.rows_of.F.kp T.rows_of.b .nil pass0 (pa_cons (pe_lc (own := [("step", 2)]) (g := gName 2) (tt := tYes) rfl sc_failing.nd (pi_list (pe_fld (pv 0) rfl)) (blkOk_by (N := N_failing) (sc := defScope s_Case_failing) (by decide +kernel))
        (fun _ _ _ _ _ => pg_name (i := 2) sc_failing.nd rfl (.inl rfl)) (fun _ _ _ _ _ => pts_nil) (fun _ _ _ _ _ => pe_int)) pa_nil)))
      (blkOk_by (N := N_failing) (sc := defScope s_Case_failing) (by decide +kernel)) (fun _ _ _ _ _ => pg_name (i := 1) sc_failing.nd rfl (.inl rfl))
      (fun _ _ _ _ _ => pts_one (pt_val (pe_meth (pv 0) T.cl_Case T.Case_fails.m (ok_fails T) hr T.Case_fails.b .nil pass0 (pa_cons (pv 1) pa_nil)))) (fun _ _ _ _ _ => pv 1))), ?_⟩
    refine ws_ret (P := rLs rNs (failing steps so wt)) eH ?_ k
    refine w_lcD (S := rNs) (R := fun row v H => rNs row v H) (P0 := rLs rNs (rowsOf (steps.map fun _ => 0))) (fails steps so wt) (fun d v H H' e r => r.up e) (fun d v H H' e r => r.up e) (fun _ => rfl) ?_ ?_
    · refine w_call (PA := fun vs H => ∃ a, vs = [V.ref a] ∧ H a = some (.lst (nV (steps.map fun _ => 0)))) (wa_cons (P := rNs (steps.map fun _ => 0)) (w_evL (xs := nV (steps.map fun _ => 0)) ?_ fun p Hs1 _ _ h1 => ⟨p, rfl, h1⟩) fun x Hs1 e1 hx => wa_nil ?_) fun vs Hs1 e1 hv => w_sp fun H e Q q => ?_
      · have h := el_lcF (K := K) (σ := L2.start N_failing [.ref c]) (Hs := Hs) (tl := tFld K (tVar 0) "steps") (t := tYes) (te := tC (.int 0)) (j := 2) (vs := [2]) us (fun x => x) (fun _ => true) (fun _ => V.int 0)
          (ev_fld (ev_var rfl) h1 T.cl_Case T.na_Case_steps (cF_steps _ _ _)) (by rw [map_id']; exact sq_of h2) (by omega) (fun _ => rfl) (fun _ _ _ _ => et_yes) (fun _ _ _ _ _ => ev_c)
        rw [filter_all, zeros_map hul] at h
        exact h
      · obtain ⟨a, rfl, ha⟩ := hx
        exact ⟨a, rfl, ha⟩
      · obtain ⟨a, rfl, ha⟩ := hv
        exact ⟨Hs1, a, _, rfl, e, ha, by rw [List.length_map]; exact hlen, q⟩
    · intro v Hs1 e1 hv
      obtain ⟨a, vs, rfl, ha, al⟩ := hv
      have hal := al.length
      have hrl : (rowsOf (steps.map fun _ => 0)).length ≤ 3125 := rowsOf_le _ (by rw [List.length_map]; exact hlen)
      refine ⟨a, vs, _, rfl, sq_of ha, by omega, al, fun row x Hs2 hd e2 hx => ?_, fun row x Hs2 hd e2 hx _ => ?_, fun p us Hs2 e2 hp h2 al2 => ⟨p, us, rfl, h2, al2⟩⟩
      · obtain ⟨r, rfl, hr⟩ := hx
        have hc2 := hc.up (e1.trans e2)
        obtain ⟨hin, hrl⟩ := rowsTo_in hd
        rw [List.length_map] at hin hrl
        refine et_B (ev_meth (ev_var rfl) (e2 _ _ (e1 _ _ h1)) (cF_no (by decide +kernel) (by decide +kernel) (by decide +kernel) _ _ _) (ea_cons (ev_var rfl) ea_nil) ?_)
        exact fun H3 e3 Q3 q3 E3 => ⟨c, r, steps, so, wt, row, rfl, hc2.up e3, e3 _ _ hr, hin, by omega, q3⟩
      · exact w_ev (ev_var rfl) hx
/-! ### pairs_of, told_pairs -/
def pairsTo (o : List Nat) (k : Nat) : List (Nat × Nat) := (List.range k).flatMap fun j => (members (o.getD j 0) o.length).map fun i => (j, i)
theorem pairsTo_more (o : List Nat) (k : Nat) : pairsTo o (k + 1) = pairsTo o k ++ (members (o.getD k 0) o.length).map fun i => (k, i) := by
  unfold pairsTo
  rw [List.range_succ, List.flatMap_append]
  simp
theorem members_le (s n : Nat) : (members s n).length ≤ n := by
  unfold members
  refine Nat.le_trans (List.length_filter_le _ _) ?_
  rw [List.length_range]
  exact Nat.le_refl _
theorem pairsTo_le (o : List Nat) (k : Nat) : (pairsTo o k).length ≤ k * o.length := by
  unfold pairsTo
  have h := flatMap_le (fun j => (members (o.getD j 0) o.length).map fun i => (j, i)) o.length (fun j => by rw [List.length_map]; exact members_le _ _) (List.range k)
  rw [List.length_range] at h
  exact h
theorem members_in {s n j : Nat} (h : j ∈ members s n) : j < n := List.mem_range.mp (List.mem_filter.mp h).1
def spPairs : Sp := fun vs H Q _ => ∃ (Hs : Hp) (a : Addr) (o : List Nat), vs = [.ref a] ∧ Ex Hs H ∧ Hs a = some (.lst (nV o)) ∧ o.length ≤ 5 ∧ Ret Hs H (rLs rPr (pairsOf o)) Q
theorem sc_pairs : FnScope ["order", "found", "later", "some", "step"] ["order"] (defScope s_pairs_of) := ⟨rfl, rfl, rfl, by decide +kernel, rfl, by decide +kernel, by decide +kernel⟩
abbrev N_pairs : List Str := ["order", "found", "later", "some", "step"]
theorem ok_pairs_of (T : All K mg) : FnOk P w K mg base CX0 2 T.pairs_of.f T.pairs_of.fd ["order"] spPairs := by
  refine T.pairs_of.F.ok sc_pairs (fun vs H Q E h => ?_) (fun cdv A outer s H vs Q E hr h => ?_)
  · obtain ⟨Hs, a, o, rfl, _⟩ := h
    rfl
  · obtain ⟨Hs, a, o, rfl, eH, ha, hlen, k⟩ := h
    refine ⟨_, pss_cons (ps_set (i := 1) sc_pairs.nd rfl (.inl rfl) (pe_lst pa_nil))
      (pss_cons (ps_for PassesOwn.never rfl (pi_enum (by rfl) T.z_enumerate (pa_cons (pv 0) pa_nil)) (pg_tup rfl (pgs_cons (pg_name (i := 2) sc_pairs.nd rfl (.inr rfl)) (pgs_cons (pg_name (i := 3) sc_pairs.nd rfl (.inl rfl)) pgs_nil)))
        (pss_one (ps_expr (pe_bm PySem.F.plainAttrs_list PySem.F.slot_list_extend PySem.F.type_list_extend mt_extend (pv 1) (pa_cons (pe_lc (own := [("step", 4)]) (g := gName 4) (tt := tYes) rfl sc_pairs.nd
          (pi_list (pe_call (ok_members T) hr (by rfl) T.members.g T.members.F.kp T.members.b .nil pass0 (pa_cons (pv 3) (pa_cons (pe_callB call_len_seq (by rfl) T.z_len PySem.boot_len (pa_cons (pv 0) pa_nil)) pa_nil)))) (blkOk_by (N := N_pairs) (sc := defScope s_pairs_of) (by decide +kernel))
          (fun _ _ _ _ _ => pg_name (i := 4) sc_pairs.nd rfl (.inl rfl)) (fun _ _ _ _ _ => pts_nil) (fun _ _ _ _ _ => pe_tup (pa_cons (pv 2) (pa_cons (pv 4) pa_nil)))) pa_nil)))))
      (pss_one (ps_ret (pv 1)))), ?_⟩
    refine q_nil (Sep.refl eH) fun l H1 hl A1 => ?_
    refine q_forE (ev_var rfl) (sq_of (A1.sep.h _ _ (eH _ _ ha))) (fun i σ H' => ∃ (Hs' : Hp) (us : List V) (v2 v3 : Option V), σ = [some (.ref a), some (.ref l), v2, v3, none] ∧ Acc Hs H l us Hs' H' ∧ All2 (fun d u => rPr d u Hs') (pairsTo o i) us)
      (fun H2 e2 => ⟨Hs, [], none, none, rfl, A1.ext e2, .nil⟩) (fun i σ' H' _ ⟨Hs', us, v2, v3, _, A, _⟩ => sq_of (A.sep.h _ _ (eH _ _ ha))) ?_ ?_
    · rintro i x σ' H' H2 hi ⟨Hs', us, v2, v3, rfl, A, al⟩ e2
      obtain ⟨d, hd, rfl⟩ := nV_get hi
      have hilt := (List.getElem?_eq_some_iff.mp hd).1
      have hdo : o.getD i 0 = d := by rw [List.getD_eq_getElem?_getD, hd]; rfl
      have A2 := A.ext e2
      have ha2 : Hs' a = some (.lst (nV o)) := A2.sep.k _ _ ha
      refine s_ext (P := rLs rPr ((members d o.length).map fun s => (i, s))) rfl A2 (w_lcD (S := fun s v H => rPr (i, s) v H) (R := fun s v _ => v = .int (s : Nat)) (P0 := rNs (members d o.length)) (fun _ => true) (fun d v H H' e r => r.up e) (fun _ _ _ _ _ r => r) (fun _ => rfl) (w_evL ?_ fun p Hs3 _ _ h3 => ⟨p, rfl, h3⟩) ?_) ?_
      · refine el_call (vs := [.int (d : Nat), .int (o.length : Nat)]) (ea_cons (ev_var rfl) (ea_cons (ev_lenI (ev_var rfl) ha2) ea_nil)) ?_
        exact fun H3 e3 Q3 q3 E3 => ⟨d, o.length, rfl, by omega, q3⟩
      · intro v Hs3 e3 hv
        obtain ⟨b, rfl, hb⟩ := hv
        refine ⟨b, _, _, rfl, sq_of hb, by rw [nV_len]; exact Nat.le_trans (members_le _ _) (by omega), All2.of_map (R := fun (s : Nat) (v : V) => v = V.int (s : Int)) (fun s => V.int (s : Int)) (fun _ => rfl) _, fun _ _ _ _ _ _ => et_yes, fun s y Hs4 hs e4 hy _ => ?_, fun p us Hs4 e4 hp h4 al4 => ?_⟩
        · subst hy
          exact w_evU (eu_tup (ea_cons (ev_var rfl) (ea_cons (ev_var rfl) ea_nil)) (by show 2 ≤ 100000; decide)) fun p Hs5 _ _ h5 => ⟨p, rfl, h5⟩
        · rw [filter_all] at al4
          refine ⟨p, us, rfl, h4, ?_⟩
          have : ∀ (l : List Nat) (us : List V), All2 (fun s v => rPr (i, s) v Hs4) l us → All2 (fun d u => rPr d u Hs4) (l.map fun s => (i, s)) us := by
            intro l us h
            induction h with
            | nil => exact .nil
            | cons r _ ih => exact .cons r ih
          exact this _ _ al4
      · intro v Hs3 H3 s3 hv
        obtain ⟨b, zs, rfl, hb, alz⟩ := hv
        have l1 := alz.length
        have l2 := al.length
        have l3 := pairsTo_le o i
        have l4 : i * o.length ≤ 5 * 5 := Nat.mul_le_mul (by omega) hlen
        rw [List.length_map] at l1
        have l5 := members_le d o.length
        refine ⟨b, zs, rfl, hb, by omega, fun H4 A4 => ⟨Hs3, us ++ zs, _, _, rfl, A4, ?_⟩⟩
        rw [pairsTo_more, hdo]
        exact (al.mono fun d u r => r.up s3.k).append alz
    · rintro σ' H' ⟨Hs', us, v2, v3, rfl, A, al⟩
      rw [nV_len] at al
      refine ws_ret (P := fun v H => v = .ref l) A.sep.s (w_ev (ev_var rfl) rfl) fun v Hs3 H3 s3 hv3 => ?_
      subst hv3
      have A3 := A.step s3
      exact k _ _ _ A3.done ⟨l, us, rfl, upd_same, (al.mono fun d u r => r.up (s3.k.trans A3.e))⟩
def spTold : Sp := fun vs H Q _ => ∃ (a : Addr) (o : List Nat), vs = [.ref a] ∧ H a = some (.lst (nV o)) ∧ o.length ≤ 5 ∧ RetL (nV (toldPairs o)) H Q
theorem pairsOf_le (o : List Nat) (h : o.length ≤ 5) : (pairsOf o).length ≤ 25 := by
  have h1 := pairsTo_le o o.length
  have h2 : o.length * o.length ≤ 5 * 5 := Nat.mul_le_mul h h
  exact Nat.le_trans h1 h2
theorem sc_told : FnScope ["order", "found", "later", "step"] ["order"] (defScope s_told_pairs) := ⟨rfl, rfl, rfl, by decide +kernel, rfl, by decide +kernel, by decide +kernel⟩
theorem ok_told_pairs (T : All K mg) : FnOk P w K mg base CX0 3 T.told_pairs.f T.told_pairs.fd ["order"] spTold := by
  refine T.told_pairs.F.ok sc_told (fun vs H Q E h => ?_) (fun cdv A outer s H vs Q E hr h => ?_)
  · obtain ⟨a, o, rfl, _⟩ := h
    rfl
  · obtain ⟨a, o, rfl, ha, hlen, k⟩ := h
    refine ⟨_, pss_cons (ps_set (i := 1) sc_told.nd rfl (.inl rfl) (pe_lst pa_nil))
      (pss_cons (ps_for PassesOwn.never rfl (pi_list (pe_call (ok_pairs_of T) hr (by rfl) T.pairs_of.g T.pairs_of.F.kp T.pairs_of.b .nil pass0 (pa_cons (pv 0) pa_nil))) (pg_tup rfl (pgs_cons (pg_name (i := 2) sc_told.nd rfl (.inl rfl)) (pgs_cons (pg_name (i := 3) sc_told.nd rfl (.inl rfl)) pgs_nil)))
        (pss_one (ps_expr (pe_bm PySem.F.plainAttrs_list PySem.F.slot_list_extend PySem.F.type_list_extend mt_extend (pv 1) (pa_cons (pe_lst (pa_cons (pv 3) (pa_cons (pv 2) pa_nil))) pa_nil)))))
      (pss_one (ps_ret (pv 1)))), ?_⟩
    refine q_nil (Sep.refl (Ex.refl H)) fun l H1 hl A1 => ?_
    refine wq_forL (P := rLs rPr (pairsOf o)) A1.sep.s (w_call (PA := fun vs H => vs = [V.ref a]) (wa_ea (ea_cons (ev_var rfl) ea_nil) rfl) fun vs Hs1 e1 hv => w_sp fun H e Q q => ?_) fun v Hs1 H1 s1 hv => ?_
    · subst hv
      exact ⟨Hs1, a, o, rfl, e, e1 _ _ ha, hlen, q⟩
    · obtain ⟨b, us, rfl, hb, al⟩ := hv
      have A2 := A1.step s1
      have hpl := pairsOf_le o hlen
      refine ⟨b, us, fun i σ H' => ∃ (Hs' : Hp) (v2 v3 : Option V), σ = [some (.ref a), some (.ref l), v2, v3] ∧ Ex Hs1 Hs' ∧ Acc H H l (nV (((pairsOf o).take i).flatMap fun p => [p.2, p.1])) Hs' H', rfl, sq_of (A2.sep.s _ _ hb), ⟨Hs1, none, none, rfl, Ex.refl _, A2⟩,
        fun i σ' H' _ ⟨Hs', v2, v3, _, e3, A⟩ => sq_of (A.sep.s _ _ (e3 _ _ hb)), ?_, ?_⟩
      · rintro i x σ' H' hi ⟨Hs', v2, v3, rfl, e3, A⟩
        obtain ⟨⟨p1, p2⟩, hp, t, rfl, ht⟩ := al.get hi
        refine ⟨t, _, rfl, SqT.of (A.sep.s _ _ (e3 _ _ ht)), rfl, _, _, rfl, _, _, rfl, rfl, ?_⟩
        refine s_ext (P := rNs [p2, p1]) rfl A (w_evL (el_lst (ea_cons (ev_var rfl) (ea_cons (ev_var rfl) ea_nil)) (by show 2 ≤ 100000; decide)) fun p Hs3 _ _ h3 => ⟨p, rfl, h3⟩) fun v Hs4 H4 s4 hv => ?_
        obtain ⟨c, rfl, hc⟩ := hv
        have hl1 := flatMap_le (fun p : Nat × Nat => [p.2, p.1]) 2 (fun _ => Nat.le_refl _) ((pairsOf o).take i)
        have hl2 : ((pairsOf o).take i).length ≤ (pairsOf o).length := by rw [List.length_take]; exact Nat.min_le_right _ _
        refine ⟨c, _, rfl, hc, ?_, fun H5 A5 => ⟨Hs4, _, _, rfl, e3.trans s4.k, ?_⟩⟩
        · rw [nV_len, nV_len]
          show _ + 2 ≤ 100000
          omega
        · rw [take_more hp, List.flatMap_append]
          simpa using A5
      · rintro σ' H' ⟨Hs', v2, v3, rfl, e3, A⟩
        rw [← al.length, List.take_length] at A
        refine s_ret (v := .ref l) (ev_var rfl) fun H4 e4 => ?_
        have A4 := A.ext e4
        exact k l H4 A4.fresh A4.sep.h A4.at_
/-! ### is_whole -/
def spWhole : Sp := fun vs H Q _ => ∃ (a : Addr) (o : List Nat) (sm : Nat), vs = [.ref a, .int (sm : Nat)] ∧ H a = some (.lst (nV o)) ∧ o.length ≤ 5 ∧ RetV (.bl (isWhole o sm)) H Q
theorem all_map {α : Type} (f : α → Bool) : ∀ l : List α, (l.map f).all id = l.all f
  | [] => rfl
  | a :: l => by simp [all_map f l]
theorem any_map {α : Type} (f : α → Bool) : ∀ l : List α, (l.map f).any id = l.any f
  | [] => rfl
  | a :: l => by simp [any_map f l]
theorem sc_whole : FnScope ["order", "some", "step"] ["order", "some"] (defScope s_is_whole) := ⟨rfl, rfl, rfl, by decide +kernel, rfl, by decide +kernel, by decide +kernel⟩
abbrev N_whole : List Str := ["order", "some", "step"]
theorem ok_is_whole (T : All K mg) : FnOk P w K mg base CX0 2 T.is_whole.f T.is_whole.fd ["order", "some"] spWhole := by
  refine T.is_whole.F.ok sc_whole (fun vs H Q E h => ?_) (fun cdv A outer s H vs Q E hr h => ?_)
  · obtain ⟨a, o, sm, rfl, _⟩ := h
    rfl
  · obtain ⟨a, o, sm, rfl, ha, hlen, k⟩ := h
    refine ⟨_, pss_one (ps_ret (pe_callB (cr_all rfl) (by rfl) T.z_all (by decide +kernel) (pa_cons (pe_lc (own := [("step", 2)]) (g := gName 2) (tt := tYes) rfl sc_whole.nd
      (pi_list (pe_call (ok_members T) hr (by rfl) T.members.g T.members.F.kp T.members.b .nil pass0 (pa_cons (pv 1) (pa_cons (pe_callB call_len_seq (by rfl) T.z_len PySem.boot_len (pa_cons (pv 0) pa_nil)) pa_nil)))) (blkOk_by (N := N_whole) (sc := defScope s_is_whole) (by decide +kernel))
      (fun _ _ _ _ _ => pg_name (i := 2) sc_whole.nd rfl (.inl rfl)) (fun _ _ _ _ _ => pts_nil)
      (fun _ _ _ _ _ => pe_cmpR op_eq (pe_op op_and (pe_ix (r := rIxL K) ix_list (pv 0) (pv 2) (fun _ _ => rfl)) (pe_un un_inv (pv 1))) pe_int (nomark _))) pa_nil))), ?_⟩
    refine s_ret (v := .bl (isWhole o sm)) (ev_is (ev_all (bs := (members sm o.length).map fun s => sub (o.getD s 0) sm) ?_) ?_) k
    · have h := el_lcNF (K := K) (σ := L2.start N_whole [.ref a, .int (sm : Nat)]) (Hs := H) (tl := tCall spMembers [] E0 (tCons (tVar 1) (tCons (tCB (rLenS K) (tCons (tVar 0) tNil)) tNil))) (t := tYes)
        (te := tOp rEq (tOp (rI0 fun i j => V.int (Builtin.bitAnd i j)) (tOp (rIxL K) (tVar 0) (tVar 2)) (tUn (rU fun i => V.int (Builtin.bitNot i)) (tVar 1))) (tC (V.int 0))) (j := 2) (vs := [2])
        (members sm o.length) (fun s => V.int (s : Int)) (fun _ => true) (fun s => V.bl (sub (o.getD s 0) sm)) (el_call (vs := [.int (sm : Nat), .int (o.length : Nat)]) (ea_cons (ev_var rfl) (ea_cons (ev_lenI (ev_var rfl) ha) ea_nil)) (fun H3 e3 Q3 q3 E3 => ⟨sm, o.length, rfl, by omega, q3⟩))
        (Nat.le_trans (members_le _ _) (by omega)) (fun _ => rfl) (fun _ _ _ _ => et_yes) (fun d Hs2 hd e2 _ => ?_)
      · rw [filter_all] at h
        rw [List.map_map]
        exact h
      · have hd5 := members_in hd
        refine ev_is (ev_op (ev_op (ev_op (ev_var rfl) (ev_var rfl) (rv_ixL (sq_of (e2 _ _ ha)) (atI_nat (nV_at hd5)))) (ev_un (ev_var rfl) (fun H1 _ _ q => ⟨_, rfl, q H1 (Ex.refl H1)⟩)) rv_I0) ev_c (rv_eq rfl)) ?_
        rw [bit_andNot]
        exact congrArg V.bl (dN _ 0)
    · rw [all_map]
      rfl
end
end Lp
end
section
set_option Elab.async false
set_option linter.all false
set_option maxRecDepth 100000
set_option maxHeartbeats 2000000
set_option pp.maxSteps 3000
namespace Lp
open PySem PySem.Spec PyProof.Rows L2 Evl
/-! ### all_orders -/
theorem allOrders_in : ∀ {n : Nat} {o : List Nat}, o ∈ allOrders n → o.length = n
  | 0, o, h => by
    have e : o = [] := by simpa [allOrders] using h
    subst e
    rfl
  | n + 1, o, h => by
    unfold allOrders at h
    obtain ⟨r, hr, h⟩ := List.mem_flatMap.mp h
    obtain ⟨s, hs, rfl⟩ := List.mem_map.mp h
    have := allOrders_in hr
    simp [this]
theorem whole_le (o : List Nat) (n : Nat) : ((List.range n).filter fun s => isWhole o s).length ≤ n := by
  refine Nat.le_trans (List.length_filter_le _ _) ?_
  rw [List.length_range]
  exact Nat.le_refl _
theorem allOrders_more (n : Nat) : (allOrders (n + 1)).length ≤ (allOrders n).length * 2 ^ n := by
  show ((allOrders n).flatMap fun o => ((List.range (2 ^ n)).filter fun s => isWhole o s).map fun s => o ++ [s]).length ≤ _
  exact flatMap_le _ _ (fun o => by rw [List.length_map]; exact whole_le o _) _
theorem allOrders_le : ∀ {n : Nat}, n ≤ 5 → (allOrders n).length ≤ 1024
  | 0, _ => by simp [allOrders]
  | 1, _ => by have := allOrders_more 0; simp [allOrders] at this ⊢; omega
  | 2, _ => by
    have h0 : (allOrders 1).length ≤ (allOrders 0).length * 1 := allOrders_more 0
    have h1 : (allOrders 2).length ≤ (allOrders 1).length * 2 := allOrders_more 1
    have z : (allOrders 0).length = 1 := rfl
    omega
  | 3, _ => by
    have h0 : (allOrders 1).length ≤ (allOrders 0).length * 1 := allOrders_more 0
    have h1 : (allOrders 2).length ≤ (allOrders 1).length * 2 := allOrders_more 1
    have h2 : (allOrders 3).length ≤ (allOrders 2).length * 4 := allOrders_more 2
    have z : (allOrders 0).length = 1 := rfl
    omega
  | 4, _ => by
    have h0 : (allOrders 1).length ≤ (allOrders 0).length * 1 := allOrders_more 0
    have h1 : (allOrders 2).length ≤ (allOrders 1).length * 2 := allOrders_more 1
    have h2 : (allOrders 3).length ≤ (allOrders 2).length * 4 := allOrders_more 2
    have h3 : (allOrders 4).length ≤ (allOrders 3).length * 8 := allOrders_more 3
    have z : (allOrders 0).length = 1 := rfl
    omega
  | 5, _ => by
    have h0 : (allOrders 1).length ≤ (allOrders 0).length * 1 := allOrders_more 0
    have h1 : (allOrders 2).length ≤ (allOrders 1).length * 2 := allOrders_more 1
    have h2 : (allOrders 3).length ≤ (allOrders 2).length * 4 := allOrders_more 2
    have h3 : (allOrders 4).length ≤ (allOrders 3).length * 8 := allOrders_more 3
    have h4 : (allOrders 5).length ≤ (allOrders 4).length * 16 := allOrders_more 4
    have z : (allOrders 0).length = 1 := rfl
    omega
  | n + 6, h => by omega
def spOrders : Sp := fun vs H Q _ => ∃ (Hs : Hp) (n : Nat), vs = [.int (n : Nat)] ∧ Ex Hs H ∧ n ≤ 5 ∧ Ret Hs H (rLs rNs (allOrders n)) Q
def spLets : Sp := fun vs H Q _ => ∃ (a r : Addr) (o row : List Nat), vs = [.ref a, .ref r] ∧ H a = some (.lst (nV o)) ∧ H r = some (.lst (nV row)) ∧ (∀ j ∈ row, j < o.length) ∧ o.length ≤ 5 ∧ row.length ≤ 1000 ∧ RetV (.bl (lets o row)) H Q
section
variable {P : Program} {w : World} {K : PySem.W.Frag} {mg : Str → Option Value} {base : Heap}
theorem sc_orders : FnScope ["many", "found", "step", "longer", "order", "some"] ["many"] (defScope s_all_orders) := ⟨rfl, rfl, rfl, by decide +kernel, rfl, by decide +kernel, by decide +kernel⟩
abbrev N_orders : List Str := ["many", "found", "step", "longer", "order", "some"]
theorem ok_all_orders (T : All K mg) : FnOk P w K mg base CX0 3 T.all_orders.f T.all_orders.fd ["many"] spOrders := by
  refine T.all_orders.F.ok sc_orders (fun vs H Q E h => ?_) (fun cdv A outer s H vs Q E hr h => ?_)
  · obtain ⟨Hs, n, rfl, _⟩ := h
    rfl
  · obtain ⟨Hs, n, rfl, eH, hn, k⟩ := h
    refine ⟨_, pss_cons (ps_set (i := 1) sc_orders.nd rfl (.inl rfl) (pe_lst (pa_cons (pe_lst pa_nil) pa_nil)))
      (pss_cons (ps_for PassesOwn.never rfl (pi_range1 (by rfl) T.z_range (pa_cons (pv 0) pa_nil)) (pg_name (i := 2) sc_orders.nd rfl (.inl rfl))
        (pss_cons (ps_set (i := 3) sc_orders.nd rfl (.inl rfl) (pe_lst pa_nil))
        (pss_cons (ps_for PassesOwn.never rfl (pi_list (pv 1)) (pg_name (i := 4) sc_orders.nd rfl (.inr rfl))
          (pss_one (ps_expr (pe_bm PySem.F.plainAttrs_list PySem.F.slot_list_extend PySem.F.type_list_extend mt_extend (pv 3) (pa_cons (pe_lc (own := [("some", 5)]) (g := gName 5) rfl sc_orders.nd
            (pi_range1 (by rfl) T.z_range (pa_cons (pe_op op_shl pe_int (pv 2)) pa_nil)) (blkOk_by (N := N_orders) (sc := defScope s_all_orders) (by decide +kernel))
            (fun _ _ _ _ _ => pg_name (i := 5) sc_orders.nd rfl (.inl rfl))
            (fun _ _ _ _ _ => pts_one (pt_val (pe_call (ok_is_whole T) hr (by rfl) T.is_whole.g T.is_whole.F.kp T.is_whole.b .nil pass0 (pa_cons (pv 4) (pa_cons (pv 5) pa_nil)))))
            (fun _ _ _ _ _ => pe_op op_cat (pv 4) (pe_lst (pa_cons (pv 5) pa_nil)))) pa_nil)))))
        (pss_one (ps_set (i := 1) sc_orders.nd rfl (.inl rfl) (pv 3))))))
      (pss_one (ps_ret (pv 1)))), ?_⟩
    refine wq_asg (P := rLs rNs [[]]) eH (w_lst (PA := fun vs H => ∃ v, vs = [v] ∧ rNs [] v H) (wa_cons (P := rNs []) (w_evL (el_lst ea_nil (by decide)) fun p Hs1 _ _ h1 => ⟨p, rfl, h1⟩) fun x Hs1 e1 hx => wa_nil ⟨x, rfl, hx⟩)
      (fun vs H ⟨v, e, _⟩ => by rw [e]; show 1 ≤ 100000; decide) fun vs Hs1 p Hs2 e1 hv e2 hp h2 => ?_) fun v Hs1 H1 s1 hv => ?_
    · obtain ⟨v, rfl, hv⟩ := hv
      exact ⟨p, [v], rfl, h2, .cons (hv.up e2) .nil⟩
    refine q_forR1 (n := (n : Nat)) (ea_cons (ev_var rfl) ea_nil |>.mono s1.h) (by omega)
      (fun i σ H' => ∃ (v : V) (Hs' : Hp) (v2 v3 v4 : Option V), σ = [some (.int (n : Nat)), some v, v2, v3, v4, none] ∧ Sep Hs H Hs' H' ∧ rLs rNs (allOrders i) v Hs')
      (fun H2 e2 => ⟨v, Hs1, none, none, none, rfl, s1.ext e2, hv⟩) ?_ ?_
    · rintro i σ' H' hi ⟨v, Hs', v2, v3, v4, rfl, s2, f, vs, rfl, hf, al⟩
      have hi' : i < n := by omega
      have hcount := allOrders_le (n := i) (by omega)
      have hpow : 2 ^ i ≤ 16 := by
        have := Nat.pow_le_pow_right (n := 2) (by decide) (show i ≤ 4 by omega)
        omega
      refine q_nil s2 fun l H2 hl A => ?_
      refine q_forLn (ev_var rfl) (sq_of (A.sep.s _ _ hf)) (fun j σ H' => ∃ (Hs'' : Hp) (us : List V) (w4 : Option V), σ = [some (.int (n : Nat)), some (.ref f), some (.int (i : Nat)), some (.ref l), w4, none] ∧ Acc Hs H l us Hs'' H' ∧ Ex Hs' Hs'' ∧
          All2 (fun d u => rNs d u Hs'') (((allOrders i).take j).flatMap fun o => ((List.range (2 ^ i)).filter fun s => isWhole o s).map fun s => o ++ [s]) us)
        (fun H3 e3 => ⟨Hs', [], v4, rfl, A.ext e3, Ex.refl _, .nil⟩) (fun j σ3 H3 _ ⟨Hs'', us, w4, _, A3, e3, _⟩ => sq_of (A3.sep.s _ _ (e3 _ _ hf))) ?_ ?_
      · rintro j x σ3 H3 hj ⟨Hs3, us, w4, rfl, A3, e3, al3⟩
        obtain ⟨o, ho, r, rfl, hr2⟩ := al.get hj
        have hr3 : Hs3 r = some (.lst (nV o)) := e3 _ _ hr2
        have hol := allOrders_in (List.mem_of_getElem? ho)
        refine s_ext (P := rLs rNs (((List.range (2 ^ i)).filter fun s => isWhole o s).map fun s => o ++ [s])) rfl A3 (w_lcR (n := 2 ^ i) (S := fun s v H => rNs (o ++ [s]) v H) (fun s => isWhole o s) (fun d v H H' e r => r.up e)
          (ea_cons (ev_is (ev_op ev_c (ev_var rfl) (rv_I ⟨by omega, by omega, by decide⟩)) (by rw [shl_nat])) ea_nil) (by omega) (fun _ => rfl) (fun d Hs4 hd e4 => ?_) (fun d Hs4 hd e4 _ => ?_) fun p us Hs4 e4 hp h4 al4 => ?_) fun v Hs6 H6 s6 hv6 => ?_
        · exact et_B (ev_call (vs := [.ref r, .int (d : Nat)]) (ea_cons (ev_var rfl) (ea_cons (ev_var rfl) ea_nil)) fun H5 e5 Q5 q5 E5 => ⟨r, o, d, rfl, e5 _ _ (e4 _ _ hr3), by omega, q5⟩)
        · refine w_op (P := fun v _ => v = .ref r) (w_ev (ev_var rfl) rfl) fun x Hs8 e8 hx => ?_
          subst hx
          refine w_op2 (P' := rNs [d]) (w_evL (el_lst (ea_cons (ev_var rfl) ea_nil) (by show 1 ≤ 100000; decide)) fun p Hs9 _ _ h9 => ⟨p, rfl, h9⟩) fun y Hs9 e9 hy => ?_
          obtain ⟨q, rfl, hq⟩ := hy
          intro H e R q2
          refine ⟨r, q, nV o, nV [d], rfl, rfl, e _ _ (e9 _ _ (e8 _ _ (e4 _ _ hr3))), e _ _ hq, ?_, fun p hp => q2 (.ref p) _ _ (Sep.new e hp) ⟨p, rfl, ?_⟩⟩
          · have h1 : (nV o).length = o.length := List.length_map ..
            have h2 : (nV [d]).length = 1 := rfl
            rw [h1, h2]
            exact sz_of (by omega)
          · rw [upd_same]
            simp
        · refine ⟨p, us, rfl, h4, ?_⟩
          have : ∀ (l : List Nat) (us : List V), All2 (fun s v => rNs (o ++ [s]) v Hs4) l us → All2 (fun d u => rNs d u Hs4) (l.map fun s => o ++ [s]) us := by
            intro l us h
            induction h with
            | nil => exact .nil
            | cons r _ ih => exact .cons r ih
          exact this _ _ al4
        · obtain ⟨b, zs, rfl, hb, alz⟩ := hv6
          have hzl := alz.length
          have hul := al3.length
          rw [List.length_map] at hzl
          have hwl := whole_le o (2 ^ i)
          have hg : (((allOrders i).take j).flatMap fun o => ((List.range (2 ^ i)).filter fun s => isWhole o s).map fun s => o ++ [s]).length ≤ 1024 * 16 := by
            refine Nat.le_trans (flatMap_le _ 16 (fun o => ?_) _) (Nat.mul_le_mul_right _ (Nat.le_trans ?_ hcount))
            · rw [List.length_map]
              exact Nat.le_trans (whole_le o _) hpow
            · rw [List.length_take]
              exact Nat.min_le_right _ _
          refine ⟨b, zs, rfl, hb, by omega, fun H7 A7 => ⟨Hs6, us ++ zs, _, rfl, A7, e3.trans s6.k, ?_⟩⟩
          rw [take_more ho, List.flatMap_append]
          refine (al3.mono fun d u r => r.up s6.k).append ?_
          simpa using alz
      · rintro σ3 H3 ⟨Hs3, us, w4, rfl, A3, e3, al3⟩
        refine s_asg (v := .ref l) (ev_var rfl) fun H4 e4 => ?_
        refine ⟨.ref l, upd Hs3 l (.lst us), _, _, _, rfl, (A3.ext e4).done, l, us, rfl, upd_same, ?_⟩
        rw [← al.length, List.take_length] at al3
        exact al3.mono fun d u r => r.up A3.e
    · rintro σ' H' ⟨v, Hs', v2, v3, v4, rfl, s2, hv⟩
      refine ws_ret (P := rLs rNs (allOrders n)) s2.s (w_ev (ev_var rfl) ?_) fun v Hs3 H3 s3 hv3 => k v Hs3 H3 (s2.trans s3) hv3
      rw [show ((n : Nat) : Int).toNat = n by omega] at hv
      exact hv
/-! ### lets -/
theorem sc_lets : FnScope ["order", "row", "done", "step"] ["order", "row"] (defScope s_lets) := ⟨rfl, rfl, rfl, by decide +kernel, rfl, by decide +kernel, by decide +kernel⟩
theorem letsFrom_cons {o : List Nat} {d j : Nat} {r : List Nat} : letsFrom o d (j :: r) = if sub (o.getD j 0) d = true then letsFrom o (d ||| 2 ^ j) r else false := rfl
theorem ok_lets (T : All K mg) : FnOk P w K mg base CX0 1 T.lets.f T.lets.fd ["order", "row"] spLets := by
  refine T.lets.F.ok sc_lets (fun vs H Q E h => ?_) (fun cdv A outer s H vs Q E hr h => ?_)
  · obtain ⟨a, r, o, row, rfl, _⟩ := h
    rfl
  · obtain ⟨a, r, o, row, rfl, ha, hrow, hin, hlen, hrl, k⟩ := h
    refine ⟨_, pss_cons (ps_set (i := 2) sc_lets.nd rfl (.inl rfl) pe_int)
      (pss_cons (ps_for PassesOwn.never rfl (pi_list (pv 1)) (pg_name (i := 3) sc_lets.nd rfl (.inl rfl))
        (pss_cons (ps_if (pt_cmpR op_ne (pe_op op_and (pe_ix ix_list (pv 0) (pv 3) (fun _ _ => rfl)) (pe_un un_inv (pv 2))) pe_int (nomark _)) (pss_one (ps_ret pe_bl)) pss_nil)
        (pss_one (ps_set (i := 2) sc_lets.nd rfl (.inl rfl) (pe_op op_or (pv 2) (pe_op op_shl pe_int (pv 3)))))))
      (pss_one (ps_ret pe_bl))), ?_⟩
    refine q_asg (v := .int ((0 : Nat) : Int)) ev_c fun H1 e1 => ?_
    refine q_forLn (xs := nV row) (ev_var rfl) (sq_of (e1 _ _ hrow)) (fun i σ H' => Ex H H' ∧ ∃ (d : Nat) (v3 : Option V), σ = [some (.ref a), some (.ref r), some (.int (d : Nat)), v3] ∧ lets o row = letsFrom o d (row.drop i))
      (fun H2 e2 => ⟨e1.trans e2, 0, none, rfl, rfl⟩) (fun i σ' H' _ p => sq_of (p.1 _ _ hrow)) ?_ ?_
    · rintro i x σ' H' hi ⟨e0, d, v3, rfl, hl⟩
      obtain ⟨j, hj, rfl⟩ := nV_get hi
      have hlt := (List.getElem?_eq_some_iff.mp hj).1
      have hjo : j < o.length := hin j (List.mem_of_getElem? hj)
      have hd : row.drop i = j :: row.drop (i + 1) := by rw [List.drop_eq_getElem_cons hlt, (List.getElem?_eq_some_iff.mp hj).2]
      rw [hd, letsFrom_cons] at hl
      refine q_when (b := !sub (o.getD j 0) d) (et_test (ev_is (ev_op (ev_op (ev_op (ev_var rfl) (ev_var rfl) (rv_ixL (sq_of (e0 _ _ ha)) (atI_nat (nV_at hjo)))) (ev_un (ev_var rfl) (fun H1 _ _ q => ⟨_, rfl, q H1 (Ex.refl H1)⟩)) rv_I0) ev_c (rv_ne rfl)) ?_)) ?_ ?_
      · rw [bit_andNot]
        exact congrArg (fun b => V.bl (!b)) (dN _ 0)
      · intro hb H3 e3
        have hb' : sub (o.getD j 0) d = false := by simpa using hb
        rw [hb', if_neg Bool.false_ne_true] at hl
        refine s_ret (v := .bl false) ev_c fun H4 e4 => ?_
        have := k H4 ((e0.trans e3).trans e4)
        rw [hl] at this
        exact this
      · intro hb H3 e3
        have hb' : sub (o.getD j 0) d = true := by simpa using hb
        rw [hb', if_pos rfl] at hl
        refine s_asg (v := .int ((d ||| 2 ^ j : Nat) : Int)) (ev_is (ev_op (ev_var rfl) (ev_op ev_c (ev_var rfl) (rv_I ⟨by omega, by omega, by decide⟩)) rv_I0) ?_) fun H4 e4 => ?_
        · rw [shl_nat, bit_or]
        · exact ⟨(e0.trans e3).trans e4, _, _, rfl, hl⟩
    · rintro σ' H' ⟨e0, d, v3, rfl, hl⟩
      rw [nV_len, List.drop_length] at hl
      refine s_ret (v := .bl true) ev_c fun H4 e4 => ?_
      have := k H4 (e0.trans e4)
      rw [hl] at this
      exact this
/-! ### working -/
def spWorking (C : Addr) : Sp := fun vs H Q _ => ∃ (Hs : Hp) (c : Addr) (steps : List Pn.Act) (so w : Nat), vs = [.ref c] ∧ Ex Hs H ∧ CaseAt C Hs c steps so w ∧ steps.length ≤ 5 ∧ Ret Hs H (rLs rNs (working steps so w)) Q
def lcScope : Stmt → Scope
  | .Return (some (.ListComp _ _ sc _)) _ => sc
  | _ => { kind := .function, names := [], isGenerator := false, isCoroutine := false }
theorem sc_working : FnScope ["case", "failing", "orders", "order", "row"] ["case"] (defScope s_working) := ⟨rfl, rfl, rfl, by decide +kernel, rfl, by decide +kernel, by decide +kernel⟩
abbrev N_working : List Str := ["case", "failing", "orders", "order", "row"]
abbrev scW : Scope := relS (lcScope ((defBody s_working).getD 2 (.Pass ⟨0, 0, 0, 0⟩))) (defScope s_working)
theorem ok_working (T : All K mg) : FnOk P w K mg base CX0 5 T.working.f T.working.fd ["case"] (spWorking T.Case) := by
  refine T.working.F.ok sc_working (fun vs H Q E h => ?_) (fun cdv A outer s H vs Q E hr h => ?_)
  · obtain ⟨Hs, c, steps, so, w, rfl, _⟩ := h
    rfl
  · obtain ⟨Hs, c, steps, so, wt, rfl, eH, hc, hlen, k⟩ := h
    obtain ⟨dx, ls, us, h1, h2, h3⟩ := hc.ex
    have hul := h3.length
    refine ⟨_, pss_cons (ps_set (i := 1) sc_working.nd rfl (.inr rfl) (pe_meth0 (pv 0) T.cl_Case T.Case_failing.m (ok_failing T) hr T.Case_failing.b .nil pass0))
      (pss_cons (ps_set (i := 2) sc_working.nd rfl (.inl rfl) (pe_call (ok_all_orders T) (hr.mono (by decide)) (by rfl) T.all_orders.g T.all_orders.F.kp T.all_orders.b .nil pass0 (pa_cons (pe_callB call_len_seq (by rfl) T.z_len PySem.boot_len (pa_cons (pe_fld (pv 0) rfl) pa_nil)) pa_nil)))
      (pss_one (ps_ret (pe_lc (own := [("order", 3)]) (g := gName 3) rfl sc_working.nd (pi_list (pv 2)) (blkOk_by (N := N_working) (sc := defScope s_working) (by decide +kernel)) (fun _ _ _ _ _ => pg_name (i := 3) sc_working.nd rfl (.inr rfl))
        (fun _ _ _ _ _ => pts_one (pt_not (pt_val (pe_callB (r := rAny K) (cr_any rfl) (by rfl) T.z_any (by decide +kernel) (pa_cons (pe_lc (wi := iList K (tVar 1)) (own := [("row", 4)]) (g := gName 4) (tt := tYes) rfl sc_working.nd (pi_list (pv 1)) (blkOk_by (N := N_working) (sc := scW) (by decide +kernel))
          (fun _ _ _ _ _ => pg_name (i := 4) sc_working.nd rfl (.inl rfl)) (fun _ _ _ _ _ => pts_nil) (fun _ _ _ _ _ => pe_call (ok_lets T) (hr.mono (by decide)) (by rfl) T.lets.g T.lets.F.kp T.lets.b .nil pass0 (pa_cons (pv 3) (pa_cons (pv 4) pa_nil)))) pa_nil))))) (fun _ _ _ _ _ => pv 3))))), ?_⟩
    refine wq_asg (P := rLs rNs (failing steps so wt)) eH ?_ fun v Hs1 H1 s1 hv => ?_
    · exact w_meth (vs := []) (ev_var rfl) h1 (cF_no (by decide +kernel) (by decide +kernel) (by decide +kernel) _ _ _) ea_nil (w_sp fun H e Q q => ⟨Hs, c, steps, so, wt, rfl, e, hc, hlen, q⟩)
    obtain ⟨fa, fus, rfl, hfa, fal⟩ := hv
    refine wq_asg (P := rLs rNs (allOrders steps.length)) s1.s (w_call (PA := fun vs H => vs = [V.int (steps.length : Nat)]) (wa_ea (ea_cons (ev_is (ev_len (ev_fld (ev_var rfl) (s1.k _ _ h1) T.cl_Case T.na_Case_steps (cF_steps _ _ _)) (sq_of (s1.k _ _ h2))) (by rw [← hul])) ea_nil) rfl) fun vs Hs2 e2 hv => w_sp fun H e Q q => ?_) fun v Hs2 H2 s2 hv => ?_
    · subst hv
      exact ⟨Hs2, steps.length, rfl, e, hlen, q⟩
    obtain ⟨oa, ous, rfl, hoa, oal⟩ := hv
    have s12 := s1.trans s2
    refine ws_ret (P := rLs rNs (working steps so wt)) s2.s ?_ fun v Hs3 H3 s3 hv => k v Hs3 H3 (s12.trans s3) hv
    have hfl : (failing steps so wt).length ≤ 3125 := by
      unfold failing
      exact Nat.le_trans (List.length_filter_le _ _) (rowsOf_le _ (by rw [List.length_map]; exact hlen))
    refine w_lcD (S := rNs) (R := rNs) (P0 := fun v _ => v = .ref oa) (fun o => !(failing steps so wt).any fun row => lets o row) (fun d v H H' e r => r.up e) (fun d v H H' e r => r.up e) (fun _ => rfl) (w_ev (ev_var rfl) rfl) fun v Hs3 e3 hv => ?_
    subst hv
    have hle := allOrders_le hlen
    have hol := oal.length
    refine ⟨oa, ous, _, rfl, sq_of (e3 _ _ hoa), by omega, oal.mono fun d u r => r.up e3, fun o x Hs4 ho e4 hx => ?_, fun o x Hs4 ho e4 hx _ => w_ev (ev_var rfl) hx, fun p us Hs4 e4 hp h4 al4 => ⟨p, us, rfl, h4, al4⟩⟩
    obtain ⟨q, rfl, hq⟩ := hx
    have hlo := allOrders_in ho
    refine et_not (et_B (ev_is (ev_any (bs := (failing steps so wt).map fun row => lets o row) ?_) (by rw [any_map])))
    refine el_w ?_
    refine w_lcD (S := fun row v _ => v = .bl (lets o row)) (R := rNs) (P0 := fun v _ => v = .ref fa) (fun _ => true) (fun _ _ _ _ _ r => r) (fun d v H H' e r => r.up e) (fun _ => rfl) (w_ev (ev_var rfl) rfl) fun v Hs5 e5 hv => ?_
    subst hv
    have e15 := (s2.k.trans e3).trans (e4.trans e5)
    have hfl2 := fal.length
    refine ⟨fa, fus, _, rfl, sq_of (e15 _ _ hfa), by omega, fal.mono fun d u r => r.up e15, fun _ _ _ _ _ _ => et_yes, fun row x Hs6 hrow e6 hx _ => ?_, fun p us Hs6 e6 hp h6 al6 => ?_⟩
    · obtain ⟨r, rfl, hr⟩ := hx
      obtain ⟨hin, hrl⟩ := rowsTo_in (List.mem_filter.mp hrow).1
      rw [List.length_map] at hin hrl
      exact w_ev (ev_call (vs := [.ref q, .ref r]) (ea_cons (ev_var rfl) (ea_cons (ev_var rfl) ea_nil)) fun H7 e7 Q7 q7 E7 => ⟨q, r, o, row, rfl, e7 _ _ (e6 _ _ (e5 _ _ hq)), e7 _ _ hr, by rw [hlo]; exact hin, by omega, by omega, q7⟩) rfl
    · rw [filter_all] at al6
      refine ⟨p, rfl, fresh_back e5 hp, ?_⟩
      rw [h6, al6.eq_map, List.map_map]
      rfl
end
end Lp
end
section
set_option Elab.async false
set_option linter.all false
set_option maxRecDepth 100000
set_option maxHeartbeats 2000000
set_option pp.maxSteps 3000
namespace Lp
open PySem PySem.Spec PyProof.Rows L2 Evl
/-! ### data that min compares -/
def dN1 (n : Nat) : PyData := .int (n : Int)
def dPr (p : Nat × Nat) : PyData := .tuple [dN1 p.1, dN1 p.2]
def dNs (l : List Nat) : PyData := .list (l.map dN1)
def dPs (l : List (Nat × Nat)) : PyData := .list (l.map dPr)
def fl (l : List (Nat × Nat)) : List Nat := l.flatMap fun p => [p.1, p.2]
theorem row_cons {x y : PyData} (h : PySem.W.alike x y = true) (xs ys : List PyData) : PySem.W.rowLt (x :: xs) (y :: ys) = if PyData.eqv x y = true then PySem.W.rowLt xs ys else PySem.W.dataLt x y := PySem.W.dataLt_cons h xs ys
theorem row_nil : PySem.W.rowLt [] [] = false := PyProof.Rows.lex_irrefl _
theorem row_less (y : PyData) (ys : List PyData) : PySem.W.rowLt [] (y :: ys) = true := by
  have h := PySem.W.firstLt_toks [] (y :: ys) (by simp [PySem.W.alikeAll])
  unfold PySem.W.rowLt
  rw [← h]
  rfl
theorem row_more (y : PyData) (ys : List PyData) : PySem.W.rowLt (y :: ys) [] = false := by
  have h := PySem.W.firstLt_toks (y :: ys) [] (by simp [PySem.W.alikeAll])
  unfold PySem.W.rowLt
  rw [← h]
  rfl
theorem eqv_n (a b : Nat) : PyData.eqv (dN1 a) (dN1 b) = decide (a = b) := by
  show ((a : Int) == (b : Int)) = decide (a = b)
  by_cases h : a = b
  · subst h; simp
  · rw [decide_eq_false h]
    exact beq_eq_false_iff_ne.mpr (by omega)
theorem lt_n (a b : Nat) : PySem.W.dataLt (dN1 a) (dN1 b) = decide (a < b) := by
  show PySem.W.dataLt (.int a) (.int b) = _
  rw [PySem.W.dataLt_int]
  exact decide_eq_decide.mpr (by omega)
theorem alike_n (a b : Nat) : PySem.W.alike (dN1 a) (dN1 b) = true := rfl
theorem alike_ns : ∀ a b : List Nat, PySem.W.alikeAll (a.map dN1) (b.map dN1) = true
  | [], _ => by simp [PySem.W.alikeAll]
  | _ :: _, [] => by simp [PySem.W.alikeAll]
  | x :: a, y :: b => by
    show (PySem.W.alike (dN1 x) (dN1 y) && PySem.W.alikeAll (a.map dN1) (b.map dN1)) = true
    rw [alike_ns a b]
    rfl
theorem lt_ns : ∀ a b : List Nat, PySem.W.rowLt (a.map dN1) (b.map dN1) = Pn04.less a b
  | [], [] => row_nil
  | [], y :: b => row_less _ _
  | x :: a, [] => row_more _ _
  | x :: a, y :: b => by
    show PySem.W.rowLt (dN1 x :: a.map dN1) (dN1 y :: b.map dN1) = (decide (x < y) || (x == y && Pn04.less a b))
    rw [row_cons (alike_n x y), eqv_n, lt_n, lt_ns a b]
    by_cases h : x = y
    · subst h; simp
    · simp [h]
theorem eqv_ns : ∀ a b : List Nat, PyData.eqvAll (a.map dN1) (b.map dN1) = decide (a = b)
  | [], [] => by simp [PyData.eqvAll]
  | [], y :: b => by simp [PyData.eqvAll]
  | x :: a, [] => by simp [PyData.eqvAll]
  | x :: a, y :: b => by
    show PyData.eqvAll (dN1 x :: a.map dN1) (dN1 y :: b.map dN1) = _
    rw [PySem.W.eqv_all_cons, eqv_n, eqv_ns a b]
    by_cases h : x = y <;> by_cases h2 : a = b <;> simp [h, h2]
theorem alike_pr (p q : Nat × Nat) : PySem.W.alike (dPr p) (dPr q) = true := rfl
theorem alike_ps : ∀ a b : List (Nat × Nat), PySem.W.alikeAll (a.map dPr) (b.map dPr) = true
  | [], _ => by simp [PySem.W.alikeAll]
  | _ :: _, [] => by simp [PySem.W.alikeAll]
  | x :: a, y :: b => by
    show (PySem.W.alike (dPr x) (dPr y) && PySem.W.alikeAll (a.map dPr) (b.map dPr)) = true
    rw [alike_ps a b]
    rfl
theorem eqv_pr (p q : Nat × Nat) : PyData.eqv (dPr p) (dPr q) = decide (p = q) := by
  show PyData.eqvAll [dN1 p.1, dN1 p.2] [dN1 q.1, dN1 q.2] = _
  have h := eqv_ns [p.1, p.2] [q.1, q.2]
  refine h.trans ?_
  obtain ⟨p1, p2⟩ := p
  obtain ⟨q1, q2⟩ := q
  simp
theorem lt_pr (p q : Nat × Nat) : PySem.W.dataLt (dPr p) (dPr q) = Pn04.less [p.1, p.2] [q.1, q.2] := by
  show PySem.W.dataLt (.tuple [dN1 p.1, dN1 p.2]) (.tuple [dN1 q.1, dN1 q.2]) = _
  rw [PySem.W.dataLt_tuple]
  exact lt_ns [p.1, p.2] [q.1, q.2]
theorem lt_ps : ∀ a b : List (Nat × Nat), PySem.W.rowLt (a.map dPr) (b.map dPr) = Pn04.less (fl a) (fl b)
  | [], [] => row_nil
  | [], y :: b => row_less _ _
  | x :: a, [] => row_more _ _
  | x :: a, y :: b => by
    show PySem.W.rowLt (dPr x :: a.map dPr) (dPr y :: b.map dPr) = Pn04.less (x.1 :: x.2 :: fl a) (y.1 :: y.2 :: fl b)
    rw [row_cons (alike_pr x y), eqv_pr, lt_pr, lt_ps a b]
    obtain ⟨x1, x2⟩ := x
    obtain ⟨y1, y2⟩ := y
    have b1 : (x1 == y1) = decide (x1 = y1) := Bool.beq_eq_decide_eq ..
    have b2 : (x2 == y2) = decide (x2 = y2) := Bool.beq_eq_decide_eq ..
    simp only [Pn04.less, b1, b2]
    by_cases h : x1 = y1 <;> by_cases h2 : x2 = y2 <;> simp [h, h2]
theorem fl_inj : ∀ a b : List (Nat × Nat), fl a = fl b → a = b
  | [], [], _ => rfl
  | [], y :: b, h => by cases (show ([] : List Nat) = y.1 :: y.2 :: fl b from h)
  | x :: a, [], h => by cases (show x.1 :: x.2 :: fl a = ([] : List Nat) from h)
  | x :: a, y :: b, h => by
    have h' : x.1 :: x.2 :: fl a = y.1 :: y.2 :: fl b := h
    injection h' with h1 h'
    injection h' with h2 h3
    rw [fl_inj a b h3]
    congr 1
    exact Prod.ext h1 h2
theorem eqv_ps : ∀ a b : List (Nat × Nat), PyData.eqvAll (a.map dPr) (b.map dPr) = decide (fl a = fl b)
  | [], [] => by simp [PyData.eqvAll]
  | [], y :: b => by simp [PyData.eqvAll, fl]
  | x :: a, [] => by simp [PyData.eqvAll, fl]
  | x :: a, y :: b => by
    show PyData.eqvAll (dPr x :: a.map dPr) (dPr y :: b.map dPr) = decide (x.1 :: x.2 :: fl a = y.1 :: y.2 :: fl b)
    rw [PySem.W.eqv_all_cons, eqv_pr, eqv_ps a b]
    obtain ⟨x1, x2⟩ := x
    obtain ⟨y1, y2⟩ := y
    by_cases h : x1 = y1 <;> by_cases h2 : x2 = y2 <;> by_cases h3 : fl a = fl b <;> simp [h, h2, h3]
/-- what loosened's min compares -/
def keyL (o : List Nat) : PyData := .tuple [dN1 (pairsOf o).length, dPs (pairsOf o), dNs o]
theorem keyL_lt (a b : List Nat) : PySem.W.dataLt (keyL a) (keyL b) = ltL a b := by
  show PySem.W.dataLt (.tuple [dN1 (pairsOf a).length, dPs (pairsOf a), dNs a]) (.tuple [dN1 (pairsOf b).length, dPs (pairsOf b), dNs b]) = _
  rw [PySem.W.dataLt_tuple]
  show PySem.W.rowLt [dN1 (pairsOf a).length, dPs (pairsOf a), dNs a] [dN1 (pairsOf b).length, dPs (pairsOf b), dNs b] = _
  rw [row_cons (alike_n _ _), row_cons (show PySem.W.alike (dPs (pairsOf a)) (dPs (pairsOf b)) = true from alike_ps _ _), row_cons (show PySem.W.alike (dNs a) (dNs b) = true from alike_ns _ _), row_nil]
  have e1 : PyData.eqv (dPs (pairsOf a)) (dPs (pairsOf b)) = decide (flat a = flat b) := eqv_ps _ _
  have e2 : PySem.W.dataLt (dPs (pairsOf a)) (dPs (pairsOf b)) = Pn04.less (flat a) (flat b) := by
    show PySem.W.dataLt (.list _) (.list _) = _
    rw [PySem.W.dataLt_list]
    exact lt_ps _ _
  have e3 : PyData.eqv (dNs a) (dNs b) = decide (a = b) := eqv_ns _ _
  have e4 : PySem.W.dataLt (dNs a) (dNs b) = Pn04.less a b := by
    show PySem.W.dataLt (.list _) (.list _) = _
    rw [PySem.W.dataLt_list]
    exact lt_ns _ _
  rw [eqv_n, lt_n, e1, e2, e3, e4]
  unfold ltL
  have hl : ∀ l : List Nat, Pn04.less l l = false := by
    intro l
    induction l with
    | nil => rfl
    | cons x l ih => simp [Pn04.less, ih]
  by_cases h1 : (pairsOf a).length = (pairsOf b).length <;> by_cases h2 : flat a = flat b <;> by_cases h3 : a = b <;> simp [h1, h2, h3, hl]
theorem keyL_inj {a b : List Nat} (h : keyL a = keyL b) : a = b := by
  unfold keyL at h
  injection h with h
  injection h with _ h
  injection h with _ h
  injection h with h _
  unfold dNs at h
  injection h with h
  have e : ∀ x y : List Nat, x.map dN1 = y.map dN1 → x = y := by
    intro x
    induction x with
    | nil => intro y h; cases y with
      | nil => rfl
      | cons _ _ => simp at h
    | cons u x ih => intro y h; cases y with
      | nil => simp at h
      | cons v y =>
        rw [List.map_cons, List.map_cons] at h
        injection h with h1 h2
        rw [ih y h2]
        congr 1
        unfold dN1 at h1
        injection h1 with h1
        omega
  exact e _ _ h
theorem less_irrefl (l : List Nat) : Pn04.less l l = false := by
  induction l with
  | nil => rfl
  | cons x l ih => simp [Pn04.less, ih]
/-- what soonest's min compares -/
def keyS (each o : List Nat) : PyData := .tuple [dN1 (through (endsOf o each)), dN1 (pairsOf o).length, dPs (pairsOf o), dNs (endsOf o each), dNs o]
theorem keyS_lt (each a b : List Nat) : PySem.W.dataLt (keyS each a) (keyS each b) = ltS each a b := by
  show PySem.W.dataLt (.tuple [dN1 (through (endsOf a each)), dN1 (pairsOf a).length, dPs (pairsOf a), dNs (endsOf a each), dNs a]) (.tuple [dN1 (through (endsOf b each)), dN1 (pairsOf b).length, dPs (pairsOf b), dNs (endsOf b each), dNs b]) = _
  rw [PySem.W.dataLt_tuple]
  show PySem.W.rowLt [dN1 (through (endsOf a each)), dN1 (pairsOf a).length, dPs (pairsOf a), dNs (endsOf a each), dNs a] [dN1 (through (endsOf b each)), dN1 (pairsOf b).length, dPs (pairsOf b), dNs (endsOf b each), dNs b] = _
  rw [row_cons (alike_n _ _), row_cons (alike_n _ _), row_cons (show PySem.W.alike (dPs (pairsOf a)) (dPs (pairsOf b)) = true from alike_ps _ _), row_cons (show PySem.W.alike (dNs (endsOf a each)) (dNs (endsOf b each)) = true from alike_ns _ _), row_cons (show PySem.W.alike (dNs a) (dNs b) = true from alike_ns _ _), row_nil]
  have e1 : PyData.eqv (dPs (pairsOf a)) (dPs (pairsOf b)) = decide (flat a = flat b) := eqv_ps _ _
  have e2 : PySem.W.dataLt (dPs (pairsOf a)) (dPs (pairsOf b)) = Pn04.less (flat a) (flat b) := by
    show PySem.W.dataLt (.list _) (.list _) = _
    rw [PySem.W.dataLt_list]
    exact lt_ps _ _
  have e3 : ∀ x y : List Nat, PyData.eqv (dNs x) (dNs y) = decide (x = y) := fun x y => eqv_ns _ _
  have e4 : ∀ x y : List Nat, PySem.W.dataLt (dNs x) (dNs y) = Pn04.less x y := fun x y => by
    show PySem.W.dataLt (.list _) (.list _) = _
    rw [PySem.W.dataLt_list]
    exact lt_ns _ _
  rw [eqv_n, lt_n, eqv_n, lt_n, e1, e2, e3, e4, e3, e4]
  unfold ltS
  by_cases h0 : through (endsOf a each) = through (endsOf b each) <;> by_cases h1 : (pairsOf a).length = (pairsOf b).length <;> by_cases h2 : flat a = flat b <;> by_cases h4 : endsOf a each = endsOf b each <;> by_cases h3 : a = b <;> simp [h0, h1, h2, h3, h4, less_irrefl]
theorem keyS_inj {each a b : List Nat} (h : keyS each a = keyS each b) : a = b := by
  have h' : keyL a = keyL b := by
    unfold keyS at h
    injection h with h
    injection h with _ h
    injection h with h1 h
    injection h with h2 h
    injection h with _ h
    injection h with h3 _
    unfold keyL
    rw [h1, h2, h3]
  exact keyL_inj h'
theorem minD_key {α : Type} (k : α → PyData) (lt : α → α → Bool) (h : ∀ a b, PySem.W.dataLt (k a) (k b) = lt a b) : ∀ (l : List α) (x : α), PySem.W.minD (k x) (l.map k) = k (minBy lt x l) := by
  intro l
  unfold PySem.W.minD minBy
  induction l with
  | nil => intro x; rfl
  | cons y l ih =>
    intro x
    rw [List.map_cons, List.foldl_cons, List.foldl_cons, h]
    by_cases c : lt y x = true
    · rw [if_pos c, if_pos c]; exact ih y
    · rw [if_neg c, if_neg c]; exact ih x
theorem depth_ns : ∀ l : List Nat, PyData.depthAll (l.map dN1) = 0
  | [] => rfl
  | a :: l => by
    show max (PyData.depth (dN1 a)) (PyData.depthAll (l.map dN1)) = 0
    rw [depth_ns l]
    rfl
theorem depth_ps : ∀ l : List (Nat × Nat), PyData.depthAll (l.map dPr) ≤ 1
  | [] => by simp [PyData.depthAll]
  | a :: l => by
    have ih := depth_ps l
    show max (PyData.depth (dPr a)) (PyData.depthAll (l.map dPr)) ≤ 1
    have e : PyData.depth (dPr a) = 1 := rfl
    rw [e]
    omega
theorem depth_keyL (o : List Nat) : (keyL o).depth ≤ 5 := by
  show max (PyData.depth (dN1 _)) (max (PyData.depthAll ((pairsOf o).map dPr) + 1) (max (PyData.depthAll (o.map dN1) + 1) 0)) + 1 ≤ 5
  have h1 := depth_ps (pairsOf o)
  have h2 := depth_ns o
  have h3 : PyData.depth (dN1 (pairsOf o).length) = 0 := rfl
  omega
theorem depth_keyS (each o : List Nat) : (keyS each o).depth ≤ 5 := by
  show max (PyData.depth (dN1 _)) (max (PyData.depth (dN1 _)) (max (PyData.depthAll ((pairsOf o).map dPr) + 1) (max (PyData.depthAll ((endsOf o each).map dN1) + 1) (max (PyData.depthAll (o.map dN1) + 1) 0)))) + 1 ≤ 5
  have h1 := depth_ps (pairsOf o)
  have h2 := depth_ns o
  have h4 := depth_ns (endsOf o each)
  have h3 : ∀ n, PyData.depth (dN1 n) = 0 := fun _ => rfl
  rw [h3, h3]
  omega
theorem depthAll_le {l : List PyData} {n : Nat} (h : ∀ x ∈ l, x.depth ≤ n) : PyData.depthAll l ≤ n := by
  induction l with
  | nil => exact Nat.zero_le _
  | cons a l ih =>
    show max a.depth (PyData.depthAll l) ≤ n
    have h1 := h a List.mem_cons_self
    have h2 := ih fun x hx => h x (List.mem_cons_of_mem _ hx)
    omega
theorem alike_keyL (a b : List Nat) : PySem.W.alike (keyL a) (keyL b) = true := by
  show (PySem.W.alike (dN1 (pairsOf a).length) (dN1 (pairsOf b).length) && (PySem.W.alikeAll ((pairsOf a).map dPr) ((pairsOf b).map dPr) && (PySem.W.alikeAll (a.map dN1) (b.map dN1) && true))) = true
  rw [alike_ps, alike_ns]
  rfl
theorem alike_keyS (each a b : List Nat) : PySem.W.alike (keyS each a) (keyS each b) = true := by
  show (PySem.W.alike (dN1 (through (endsOf a each))) (dN1 (through (endsOf b each))) && (PySem.W.alike (dN1 (pairsOf a).length) (dN1 (pairsOf b).length) && (PySem.W.alikeAll ((pairsOf a).map dPr) ((pairsOf b).map dPr) && (PySem.W.alikeAll ((endsOf a each).map dN1) ((endsOf b each).map dN1) && (PySem.W.alikeAll (a.map dN1) (b.map dN1) && true))))) = true
  rw [alike_ps, alike_ns, alike_ns]
  rfl
/-! data from the heap -/
mutual
theorem dp_up {K : PySem.W.Frag} {H H' : Hp} (e : Ex H H') : ∀ {d : PyData} {v : V}, Dp K H v d → Dp K H' v d
  | _, _, .non => .non
  | _, _, .bl b => .bl b
  | _, _, .int i => .int i
  | _, _, .str x => .str x
  | _, _, .lst h t => .lst (ex_l e h) (dpAll_up e t)
  | _, _, .tup h t => .tup (ex_t e h) (dpAll_up e t)
theorem dpAll_up {K : PySem.W.Frag} {H H' : Hp} (e : Ex H H') : ∀ {ds : List PyData} {vs : List V}, DpAll K H vs ds → DpAll K H' vs ds
  | _, _, .nil => .nil
  | _, _, .cons h t => .cons (dp_up e h) (dpAll_up e t)
end
theorem dp_all {K : PySem.W.Frag} {H : Hp} {α : Type} {k : α → PyData} {R : α → V → Hp → Prop} (h : ∀ a v, R a v H → Dp K H v (k a)) : ∀ {l : List α} {us : List V}, All2 (fun d u => R d u H) l us → DpAll K H us (l.map k)
  | _, _, .nil => .nil
  | _, _, .cons r t => .cons (h _ _ r) (dp_all h t)
theorem dp_nV {K : PySem.W.Frag} {H : Hp} : ∀ l : List Nat, DpAll K H (nV l) (l.map dN1)
  | [] => .nil
  | _ :: l => .cons (.int _) (dp_nV l)
theorem dp_ns {K : PySem.W.Frag} {H : Hp} {l : List Nat} {v : V} (h : rNs l v H) : Dp K H v (dNs l) := by
  obtain ⟨a, rfl, ha⟩ := h
  exact .lst (sq_of ha) (dp_nV l)
theorem dp_pr {K : PySem.W.Frag} {H : Hp} {p : Nat × Nat} {v : V} (h : rPr p v H) : Dp K H v (dPr p) := by
  obtain ⟨a, rfl, ha⟩ := h
  exact .tup (st_of ha) (.cons (.int _) (.cons (.int _) .nil))
theorem dp_ps {K : PySem.W.Frag} {H : Hp} {l : List (Nat × Nat)} {v : V} (h : rLs rPr l v H) : Dp K H v (dPs l) := by
  obtain ⟨a, us, rfl, ha, al⟩ := h
  exact .lst (sq_of ha) (dp_all (k := dPr) (R := rPr) (fun _ _ r => dp_pr r) al)
end Lp
end
section
set_option Elab.async false
set_option linter.all false
set_option maxRecDepth 100000
set_option maxHeartbeats 2000000
set_option pp.maxSteps 3000
namespace Lp
open PySem PySem.Spec PyProof.Rows L2 Evl
/-! ### loosened -/
/-- one of the tuples that loosened makes -/
def rKey (o : List Nat) (v : V) (H : Hp) : Prop := ∃ a pv ov, v = .ref a ∧ H a = some (.tup [.int ((pairsOf o).length : Nat), pv, ov]) ∧ rLs rPr (pairsOf o) pv H ∧ rNs o ov H
theorem rKey.up {o : List Nat} {v : V} {H H' : Hp} (e : Ex H H') (h : rKey o v H) : rKey o v H' :=
  let ⟨a, pv, ov, h1, h2, h3, h4⟩ := h
  ⟨a, pv, ov, h1, e a _ h2, h3.up (fun _ _ _ _ e r => r.up e) e, h4.up e⟩
theorem dp_key {K : PySem.W.Frag} {H : Hp} {o : List Nat} {v : V} (h : rKey o v H) : Dp K H v (keyL o) := by
  obtain ⟨a, pv, ov, rfl, h2, h3, h4⟩ := h
  exact .tup (st_of h2) (.cons (.int _) (.cons (dp_ps h3) (.cons (dp_ns h4) .nil)))
def spLoosened (C : Addr) : Sp := fun vs H Q _ => ∃ (Hs : Hp) (c : Addr) (steps : List Pn.Act) (so w : Nat), vs = [.ref c] ∧ Ex Hs H ∧ CaseAt C Hs c steps so w ∧ steps.length ≤ 5 ∧ working steps so w ≠ [] ∧ Ret Hs H (rNs (loosened (working steps so w))) Q
theorem mem_minBy {α : Type} (lt : α → α → Bool) : ∀ (l : List α) (x : α), minBy lt x l ∈ x :: l := by
  intro l
  unfold minBy
  induction l with
  | nil => intro x; simp
  | cons y r ih =>
    intro x
    rw [List.foldl_cons]
    have h := ih (if lt y x = true then y else x)
    rcases List.mem_cons.mp h with e | e
    · rw [e]
      by_cases c : lt y x = true
      · rw [if_pos c]; simp
      · rw [if_neg c]; simp
    · exact List.mem_cons_of_mem _ (List.mem_cons_of_mem _ e)
/-- min over a list of tuples that are told by keys -/
theorem w_min {α : Type} {K : PySem.W.Frag} {σ : L2.St} {Hs : Hp} {te : TE} {Q : V → Hp → Prop} {R : α → V → Hp → Prop} (k : α → PyData) (lt : α → α → Bool) (x : α) (l : List α) (hlt : ∀ a b, PySem.W.dataLt (k a) (k b) = lt a b) (hinj : ∀ a b, k a = k b → a = b)
    (hal : ∀ a b, PySem.W.alike (k a) (k b) = true) (hd : ∀ a, (k a).depth ≤ 5) (hnn : ∀ a, k a ≠ .none) (hdp : ∀ a v H, R a v H → Dp K H v (k a)) (h : W (te σ) Hs (rLs R (x :: l)))
    (hq : ∀ v Hs1, Ex Hs Hs1 → R (minBy lt x l) v Hs1 → Q v Hs1) : W (tCB (rMinD K) (tCons te tNil) σ) Hs Q := fun H e Rr q => h H e _ fun v Hs1 H1 s1 hv => by
  obtain ⟨a, us, rfl, ha, al⟩ := hv
  refine ⟨a, us, k x, l.map k, rfl, sq_of (s1.s _ _ ha), ?_, ⟨?_, ?_⟩, ?_, fun i u hu hm => ?_⟩
  · have h1 := dp_all (K := K) (k := k) (fun a v r => hdp a v _ r) al
    have up : ∀ (ds : List PyData) (vs : List V), DpAll K Hs1 vs ds → DpAll K H1 vs ds := fun ds vs h => dpAll_up s1.s h
    exact up _ _ h1
  · intro y hy z hz
    obtain ⟨y', _, rfl⟩ := List.mem_map.mp (show y ∈ (x :: l).map k from hy)
    obtain ⟨z', _, rfl⟩ := List.mem_map.mp (show z ∈ (x :: l).map k from hz)
    exact hal _ _
  · intro y hy
    obtain ⟨y', _, rfl⟩ := List.mem_map.mp (show y ∈ (x :: l).map k from hy)
    exact hnn _
  · refine Nat.le_trans (depthAll_le (n := 5) fun y hy => ?_) (by decide)
    obtain ⟨y', _, rfl⟩ := List.mem_map.mp (show y ∈ (x :: l).map k from hy)
    exact hd _
  · obtain ⟨o, ho, hr⟩ := al.get hu
    have e1 : ((x :: l).map k)[i]? = some (k o) := by rw [List.getElem?_map, ho]; rfl
    have e2 : k o = PySem.W.minD (k x) (l.map k) := Option.some.inj (e1.symm.trans hm)
    rw [minD_key k lt hlt] at e2
    have e3 := hinj _ _ e2
    rw [e3] at hr
    exact q u Hs1 H1 s1 (hq u Hs1 s1.k hr)
theorem w_pairs {σ : L2.St} {Hs : Hp} {tx : TE} {a : Addr} {o : List Nat} {E : XK} (h : Ev tx σ Hs (.ref a)) (ha : Hs a = some (.lst (nV o))) (hl : o.length ≤ 5) : W (tCall spPairs [] E (tCons tx tNil) σ) Hs (rLs rPr (pairsOf o)) :=
  w_call (PA := fun vs _ => vs = [V.ref a]) (wa_ea (ea_cons h ea_nil) rfl) fun vs Hs1 e1 hv => w_sp fun H e Q q => by
    subst hv
    exact ⟨Hs1, a, o, rfl, e, e1 _ _ ha, hl, q⟩
theorem ev_lenW {α : Type} {K : PySem.W.Frag} {R : α → V → Hp → Prop} {σ : L2.St} {Hs : Hp} {tx : TE} {l : List α} (h : W (tx σ) Hs (rLs R l)) : Ev (tCB (rLenS K) (tCons tx tNil)) σ Hs (.int (l.length : Nat)) := fun H e Q q =>
  h H e _ fun v Hs1 H1 s1 ⟨a, us, hv, ha, al⟩ => by
    subst hv
    refine ⟨a, us, rfl, Or.inl (sq_of (s1.s _ _ ha)), ?_⟩
    rw [← al.length]
    exact q H1 s1.h
section
variable {P : Program} {w : World} {K : PySem.W.Frag} {mg : Str → Option Value} {base : Heap}
theorem working_in {steps : List Pn.Act} {so w : Nat} {o : List Nat} (h : o ∈ working steps so w) : o.length = steps.length := allOrders_in (List.mem_filter.mp h).1
theorem working_le {steps : List Pn.Act} {so w : Nat} (h : steps.length ≤ 5) : (working steps so w).length ≤ 1024 := Nat.le_trans (List.length_filter_le _ _) (allOrders_le h)
theorem w_working {σ : L2.St} {Hs : Hp} {tx : TE} {C c : Addr} {E : XK} {steps : List Pn.Act} {so w : Nat} (h : Ev tx σ Hs (.ref c)) (hc : CaseAt C Hs c steps so w) (hl : steps.length ≤ 5) : W (tCall (spWorking C) [] E (tCons tx tNil) σ) Hs (rLs rNs (working steps so w)) :=
  w_call (PA := fun vs _ => vs = [V.ref c]) (wa_ea (ea_cons h ea_nil) rfl) fun vs Hs1 e1 hv => w_sp fun H e Q q => by
    subst hv
    exact ⟨Hs1, c, steps, so, w, rfl, e, hc.up e1, hl, q⟩
theorem sc_loosened : FnScope ["case", "some", "order"] ["case"] (defScope s_loosened) := ⟨rfl, rfl, rfl, by decide +kernel, rfl, by decide +kernel, by decide +kernel⟩
abbrev N_loosened : List Str := ["case", "some", "order"]
theorem ok_loosened (T : All K mg) : FnOk P w K mg base CX0 6 T.loosened.f T.loosened.fd ["case"] (spLoosened T.Case) := by
  refine T.loosened.F.ok sc_loosened (fun vs H Q E h => ?_) (fun cdv A outer s H vs Q E hr h => ?_)
  · obtain ⟨Hs, c, steps, so, w, rfl, _⟩ := h
    rfl
  · obtain ⟨Hs, c, steps, so, wt, rfl, eH, hc, hlen, hne, k⟩ := h
    have hr2 : Room 2 _ := hr.mono (by decide)
    refine ⟨_, pss_cons (ps_setLc (i := 1) (own := [("order", 2)]) (g := gName 2) (tt := tYes) rfl sc_loosened.nd rfl rfl (sw_true rfl rfl rfl (by decide +kernel))
        (pi_list (pe_call (ok_working T) hr (by rfl) T.working.g T.working.F.kp T.working.b .nil pass0 (pa_cons (pv 0) pa_nil))) (blkOk_by (N := N_loosened) (sc := defScope s_loosened) (by decide +kernel))
        (fun _ _ _ _ _ => pg_name (i := 2) sc_loosened.nd rfl (.inl rfl)) (fun _ _ _ _ _ => pts_nil)
        (fun _ _ _ _ _ => pe_tup (pa_cons (pe_callB (r := rLenS K) call_len_seq (by rfl) T.z_len PySem.boot_len (pa_cons (pe_call (ok_pairs_of T) hr2 (by rfl) T.pairs_of.g T.pairs_of.F.kp T.pairs_of.b .nil pass0 (pa_cons (pv 2) pa_nil)) pa_nil))
          (pa_cons (pe_call (ok_pairs_of T) hr2 (by rfl) T.pairs_of.g T.pairs_of.F.kp T.pairs_of.b .nil pass0 (pa_cons (pv 2) pa_nil)) (pa_cons (pv 2) pa_nil)))))
      (pss_one (ps_ret (pe_ix ix_tup (pe_callB (cr_minD rfl hr.units) (by rfl) T.z_min (by decide +kernel) (pa_cons (pv 1) pa_nil)) pe_int (fun _ _ => rfl)))), ?_⟩
    refine wq_asg (P := rLs rKey (working steps so wt)) eH (w_lcD (S := rKey) (R := rNs) (P0 := rLs rNs (working steps so wt)) (fun _ => true) (fun d v H H' e r => r.up e) (fun d v H H' e r => r.up e) (fun _ => rfl) (w_working (ev_var rfl) hc hlen) fun v Hs1 e1 hv => ?_) fun v Hs1 H1 s1 hv => ?_
    · obtain ⟨a, us, rfl, ha, al⟩ := hv
      have hal := al.length
      have hwl := working_le (so := so) (w := wt) hlen
      refine ⟨a, us, _, rfl, sq_of ha, by omega, al, fun _ _ _ _ _ _ => et_yes, fun o x Hs2 ho e2 hx _ => ?_, fun p us Hs2 e2 hp h2 al2 => ?_⟩
      · obtain ⟨oa, rfl, hoa⟩ := hx
        have hol := working_in ho
        refine w_tup (PA := fun vs H => ∃ pv, vs = [.int ((pairsOf o).length : Nat), pv, .ref oa] ∧ rLs rPr (pairsOf o) pv H ∧ H oa = some (.lst (nV o)))
          (wa_cons (P := fun v _ => v = .int ((pairsOf o).length : Nat)) (w_ev (ev_lenW (w_pairs (ev_var rfl) hoa (by omega))) rfl) fun x Hs3 e3 hx => wa_cons (P := rLs rPr (pairsOf o)) (w_pairs (ev_var rfl) (e3 _ _ hoa) (by omega)) fun y Hs4 e4 hy => wa_cons (P := fun v _ => v = .ref oa) (w_ev (ev_var rfl) rfl) fun z Hs5 e5 hz => wa_nil ?_) (fun vs H ⟨pv, e, _⟩ => by rw [e]; show 3 ≤ 100000; decide) fun vs Hs3 p Hs4 e3 hv e4 hp h4 => ?_
        · subst hx hz
          exact ⟨y, rfl, hy.up (fun _ _ _ _ e r => r.up e) e5, e5 _ _ (e4 _ _ (e3 _ _ hoa))⟩
        · obtain ⟨pv, rfl, h5, h6⟩ := hv
          exact ⟨p, pv, .ref oa, rfl, h4, h5.up (fun _ _ _ _ e r => r.up e) e4, oa, rfl, e4 _ _ h6⟩
      · rw [filter_all] at al2
        exact ⟨p, us, rfl, h2, al2⟩
    · obtain ⟨x, l, hxl⟩ : ∃ x l, working steps so wt = x :: l := by
        cases q : working steps so wt with
        | nil => exact absurd q hne
        | cons x l => exact ⟨x, l, rfl⟩
      have hloo : loosened (working steps so wt) = minBy ltL x l := by rw [hxl]; rfl
      refine ws_ret (P := rNs (loosened (working steps so wt))) s1.s ?_ fun v Hs3 H3 s3 hv3 => k v Hs3 H3 (s1.trans s3) hv3
      refine w_op (P := rKey (minBy ltL x l)) (w_min keyL ltL x l keyL_lt (fun a b h => keyL_inj h) alike_keyL depth_keyL (fun a h => by cases h) (fun _ _ _ r => dp_key r) (w_ev (ev_var rfl) (by rw [← hxl]; exact hv)) fun v Hs2 _ h => h) fun v Hs2 e2 hv2 => ?_
      obtain ⟨a, pv, ov, rfl, h2, h3, h4⟩ := hv2
      refine w_op2 (P' := fun v _ => v = .int 2) (w_ev ev_c rfl) fun y Hs3 e3 hy => ?_
      subst hy
      intro H e R q
      refine ⟨a, _, 2, ov, rfl, rfl, st_of (e _ _ (e3 _ _ h2)), atI_nat (j := 2) rfl, q ov Hs3 H (Sep.refl e) ?_⟩
      rw [hloo]
      exact h4.up e3
/-! ### ends_of -/
def endsTo (o each : List Nat) (k : Nat) : List Nat := (List.range k).foldl (fun e j => e ++ [((members (o.getD j 0) j).map fun i => e.getD i 0).foldl max 0 + each.getD j 0]) []
theorem endsTo_more (o each : List Nat) (k : Nat) : endsTo o each (k + 1) = endsTo o each k ++ [((members (o.getD k 0) k).map fun i => (endsTo o each k).getD i 0).foldl max 0 + each.getD k 0] := by
  unfold endsTo
  rw [List.range_succ, List.foldl_append]
  rfl
theorem endsTo_len (o each : List Nat) : ∀ k, (endsTo o each k).length = k
  | 0 => rfl
  | k + 1 => by rw [endsTo_more, List.length_append, endsTo_len o each k]; rfl
theorem foldl_max0 : ∀ (l : List Nat) (a : Nat), (l ++ [0]).foldl max a = l.foldl max a := by
  intro l a
  rw [List.foldl_append]
  show max (l.foldl max a) 0 = _
  omega
theorem el_cat {σ : L2.St} {H : Hp} {ta tb : TE} {xs ys : List V} (ha : EvL ta σ H xs) (hb : EvL tb σ H ys) (hz : xs.length + ys.length ≤ 100000) : EvL (tOp rCat ta tb) σ H (xs ++ ys) := fun H1 e Q q =>
  ha H1 e _ fun p H2 _ e2 h2 => hb H2 (e.trans e2) _ fun r H3 _ e3 h3 => ⟨p, r, xs, ys, rfl, rfl, e3 p _ h2, h3, sz_of hz, fun l hl => q l _ (fresh_back (e2.trans e3) hl) ((e2.trans e3).trans (Ex.new hl)) upd_same⟩
theorem el_catV {σ : L2.St} {H : Hp} {ta tb : TE} {p : Addr} {xs ys : List V} (ha : Ev ta σ H (.ref p)) (hp : H p = some (.lst xs)) (hb : EvL tb σ H ys) (hz : xs.length + ys.length ≤ 100000) : EvL (tOp rCat ta tb) σ H (xs ++ ys) := fun H1 e Q q =>
  ha H1 e _ fun H2 e2 => hb H2 (e.trans e2) _ fun r H3 _ e3 h3 => ⟨p, r, xs, ys, rfl, rfl, e3 p _ (e2 p _ (e p _ hp)), h3, sz_of hz, fun l hl => q l _ (fresh_back (e2.trans e3) hl) ((e2.trans e3).trans (Ex.new hl)) upd_same⟩
def spEnds : Sp := fun vs H Q _ => ∃ (a b : Addr) (o each : List Nat), vs = [.ref a, .ref b] ∧ H a = some (.lst (nV o)) ∧ H b = some (.lst (nV each)) ∧ o.length ≤ 5 ∧ each.length = o.length ∧ RetL (nV (endsOf o each)) H Q
theorem sc_ends : FnScope ["order", "each", "found", "step", "some", "one"] ["order", "each"] (defScope s_ends_of) := ⟨rfl, rfl, rfl, by decide +kernel, rfl, by decide +kernel, by decide +kernel⟩
abbrev N_ends : List Str := ["order", "each", "found", "step", "some", "one"]
theorem ok_ends_of (T : All K mg) : FnOk P w K mg base CX0 2 T.ends_of.f T.ends_of.fd ["order", "each"] spEnds := by
  refine T.ends_of.F.ok sc_ends (fun vs H Q E h => ?_) (fun cdv A outer s H vs Q E hr h => ?_)
  · obtain ⟨a, b, o, each, rfl, _⟩ := h
    rfl
  · obtain ⟨a, b, o, each, rfl, ha, hb, hlen, hel, k⟩ := h
    refine ⟨_, pss_cons (ps_set (i := 2) sc_ends.nd rfl (.inr rfl) (pe_lst pa_nil))
      (pss_cons (ps_for PassesOwn.never rfl (pi_enum (by rfl) T.z_enumerate (pa_cons (pv 0) pa_nil)) (pg_tup rfl (pgs_cons (pg_name (i := 3) sc_ends.nd rfl (.inl rfl)) (pgs_cons (pg_name (i := 4) sc_ends.nd rfl (.inl rfl)) pgs_nil)))
        (pss_one (ps_expr (pe_bm PySem.F.plainAttrs_list PySem.F.slot_list_append PySem.F.type_list_append mt_append (pv 2) (pa_cons (pe_op op_add
          (pe_callB (cr_max rfl) (by rfl) T.z_max (by decide +kernel) (pa_cons (pe_op op_cat (pe_lc (own := [("one", 5)]) (g := gName 5) (tt := tYes) rfl sc_ends.nd
            (pi_list (pe_call (ok_members T) hr (by rfl) T.members.g T.members.F.kp T.members.b .nil pass0 (pa_cons (pv 4) (pa_cons (pv 3) pa_nil)))) (blkOk_by (N := N_ends) (sc := defScope s_ends_of) (by decide +kernel))
            (fun _ _ _ _ _ => pg_name (i := 5) sc_ends.nd rfl (.inl rfl)) (fun _ _ _ _ _ => pts_nil) (fun _ _ _ _ _ => pe_ix (r := rIxL K) ix_list (pv 2) (pv 5) (fun _ _ => rfl))) (pe_lst (pa_cons pe_int pa_nil))) pa_nil))
          (pe_ix ix_list (pv 1) (pv 3) (fun _ _ => rfl))) pa_nil)))))
      (pss_one (ps_ret (pv 2)))), ?_⟩
    refine q_asgL (xs := []) (el_lst ea_nil (by decide)) fun l H1 hl e1 h1 => ?_
    refine q_forE (xs := nV o) (ev_var rfl) (sq_of (e1 _ _ ha)) (fun i σ H' => Ex H H' ∧ H' l = some (.lst (nV (endsTo o each i))) ∧ ∃ (v3 v4 : Option V), σ = [some (.ref a), some (.ref b), some (.ref l), v3, v4, none])
      (fun H2 e2 => ⟨e1.trans e2, e2 _ _ h1, none, none, rfl⟩) (fun i σ' H' _ p => sq_of (p.1 _ _ ha)) ?_ ?_
    · rintro i x σ' H' H2 hi ⟨e0, hf, v3, v4, rfl⟩ e2
      obtain ⟨d, hd, rfl⟩ := nV_get hi
      have hilt := (List.getElem?_eq_some_iff.mp hd).1
      have hdo : o.getD i 0 = d := by rw [List.getD_eq_getElem?_getD, hd]; rfl
      have hf2 := e2 _ _ hf
      have E2 := e0.trans e2
      have hml := members_le d i
      refine s_app (v := .int ((((members d i).map fun j => (endsTo o each i).getD j 0).foldl max 0 + each.getD i 0 : Nat) : Int)) hf2 (ev_var rfl) (ev_is (ev_op (ev_max (ns := ((members d i).map fun j => (endsTo o each i).getD j 0) ++ [0]) ?_ (by simp)) (ev_op (ev_var rfl) (ev_var rfl) (rv_ixL (sq_of (E2 _ _ hb)) (atI_nat (nV_at (by omega))))) rv_I0) ?_) (by rw [nV_len, endsTo_len]; omega) fun H3 e3 => ?_
      · have h := el_lcNF (K := K) (σ := [some (.ref a), some (.ref b), some (.ref l), some (.int (i : Int)), some (.int (d : Nat)), none]) (Hs := H2) (tl := tCall spMembers [] E0 (tCons (tVar 4) (tCons (tVar 3) tNil))) (t := tYes)
          (te := tOp (rIxL K) (tVar 2) (tVar 5)) (j := 5) (vs := [5]) (members d i) (fun s => V.int (s : Int)) (fun _ => true) (fun s => V.int (((endsTo o each i).getD s 0 : Nat) : Int))
          (el_call (vs := [.int (d : Nat), .int (i : Nat)]) (ea_cons (ev_var rfl) (ea_cons (ev_var rfl) ea_nil)) (fun H3 e3 Q3 q3 E3 => ⟨d, i, rfl, by omega, q3⟩))
          (by omega) (fun _ => rfl) (fun _ _ _ _ => et_yes) (fun s Hs2 hs e2 _ => ev_op (ev_var rfl) (ev_var rfl) (rv_ixL (sq_of (e2 _ _ hf2)) (atI_nat (nV_at (by rw [endsTo_len]; exact members_in hs)))))
        rw [filter_all] at h
        have h2 := el_cat h (el_lst (ea_cons (ev_c (v := .int 0)) ea_nil) (by show 1 ≤ 100000; decide)) (by rw [List.length_map]; show _ + 1 ≤ 100000; omega)
        have e9 : nV (((members d i).map fun j => (endsTo o each i).getD j 0) ++ [0]) = (members d i).map (fun s => V.int (((endsTo o each i).getD s 0 : Nat) : Int)) ++ [V.int 0] := by
          simp
        rw [e9]
        exact h2
      · rw [foldl_max0]
        rfl
      · refine ⟨(E2.trans e3).mut (fresh_back (Ex.refl H) hl), ?_, _, _, rfl⟩
        rw [upd_same, endsTo_more, hdo]
        simp
    · rintro σ' H' ⟨e0, hf, v3, v4, rfl⟩
      rw [nV_len] at hf
      refine s_ret (v := .ref l) (ev_var rfl) fun H4 e4 => k l H4 hl (e0.trans e4) (e4 _ _ hf)
end
end Lp
end
section
set_option Elab.async false
set_option linter.all false
set_option maxRecDepth 100000
set_option maxHeartbeats 2000000
set_option pp.maxSteps 3000
namespace Lp
open PySem PySem.Spec PyProof.Rows L2 Evl
/-! ### soonest -/
def rKeyS (each o : List Nat) (v : V) (H : Hp) : Prop := ∃ a pv ev ov, v = .ref a ∧ H a = some (.tup [.int (through (endsOf o each) : Nat), .int ((pairsOf o).length : Nat), pv, ev, ov]) ∧ rLs rPr (pairsOf o) pv H ∧ rNs (endsOf o each) ev H ∧ rNs o ov H
theorem rKeyS.up {each o : List Nat} {v : V} {H H' : Hp} (e : Ex H H') (h : rKeyS each o v H) : rKeyS each o v H' :=
  let ⟨a, pv, ev, ov, h1, h2, h3, h4, h5⟩ := h
  ⟨a, pv, ev, ov, h1, e a _ h2, h3.up (fun _ _ _ _ e r => r.up e) e, h4.up e, h5.up e⟩
theorem dp_keyS {K : PySem.W.Frag} {H : Hp} {each o : List Nat} {v : V} (h : rKeyS each o v H) : Dp K H v (keyS each o) := by
  obtain ⟨a, pv, ev, ov, rfl, h2, h3, h4, h5⟩ := h
  exact .tup (st_of h2) (.cons (.int _) (.cons (.int _) (.cons (dp_ps h3) (.cons (dp_ns h4) (.cons (dp_ns h5) .nil)))))
/-- what soonest gives -/
def rSoon (each o : List Nat) (v : V) (H : Hp) : Prop := ∃ a ev ov, v = .ref a ∧ H a = some (.tup [.int (through (endsOf o each) : Nat), ev, ov]) ∧ rNs (endsOf o each) ev H ∧ rNs o ov H
def spSoonest (C : Addr) : Sp := fun vs H Q _ => ∃ (Hs : Hp) (c b : Addr) (steps : List Pn.Act) (so w : Nat) (each : List Nat), vs = [.ref c, .ref b] ∧ Ex Hs H ∧ CaseAt C Hs c steps so w ∧ Hs b = some (.lst (nV each)) ∧ steps.length ≤ 5 ∧ each.length = steps.length ∧ working steps so w ≠ [] ∧
  Ret Hs H (rSoon each (soonest each (working steps so w))) Q
def spFirst (C : Addr) : Sp := fun vs H Q _ => ∃ (Hs : Hp) (c a : Addr) (steps : List Pn.Act) (so w : Nat) (o : List Nat), vs = [.ref c, .ref a] ∧ Ex Hs H ∧ CaseAt C Hs c steps so w ∧ Hs a = some (.lst (nV o)) ∧ steps.length ≤ 5 ∧ o.length = steps.length ∧ Ret Hs H (rLs rNs (firstFailing steps so w o)) Q
def spWab : Sp := fun vs H Q _ => ∃ (a : Addr) (o : List Nat), vs = [.ref a] ∧ H a = some (.lst (nV o)) ∧ o.length ≤ 5 ∧ RetL (nV (wab o)) H Q
section
variable {P : Program} {w : World} {K : PySem.W.Frag} {mg : Str → Option Value} {base : Heap}
theorem sc_soonest : FnScope ["case", "each", "found", "order", "ends", "through", "many", "pairs"] ["case", "each"] (defScope s_soonest) := ⟨rfl, rfl, rfl, by decide +kernel, rfl, by decide +kernel, by decide +kernel⟩
theorem endsOf_len (o each : List Nat) : (endsOf o each).length = o.length := endsTo_len o each o.length
theorem ok_soonest (T : All K mg) : FnOk P w K mg base CX0 6 T.soonest.f T.soonest.fd ["case", "each"] (spSoonest T.Case) := by
  refine T.soonest.F.ok sc_soonest (fun vs H Q E h => ?_) (fun cdv A outer s H vs Q E hr h => ?_)
  · obtain ⟨Hs, c, b, steps, so, w, each, rfl, _⟩ := h
    rfl
  · obtain ⟨Hs, c, b, steps, so, wt, each, rfl, eH, hc, hb, hlen, hel, hne, k⟩ := h
    have hr2 : Room 2 _ := hr.mono (by decide)
    have hwl := working_le (so := so) (w := wt) hlen
    refine ⟨_, pss_cons (ps_set (i := 2) sc_soonest.nd rfl (.inl rfl) (pe_lst pa_nil))
      (pss_cons (ps_for PassesOwn.never rfl (pi_list (pe_call (ok_working T) hr (by rfl) T.working.g T.working.F.kp T.working.b .nil pass0 (pa_cons (pv 0) pa_nil))) (pg_name (i := 3) sc_soonest.nd rfl (.inl rfl))
        (pss_cons (ps_set (i := 4) sc_soonest.nd rfl (.inl rfl) (pe_call (ok_ends_of T) hr2 (by rfl) T.ends_of.g T.ends_of.F.kp T.ends_of.b .nil pass0 (pa_cons (pv 3) (pa_cons (pv 1) pa_nil))))
        (pss_one (ps_expr (pe_bm PySem.F.plainAttrs_list PySem.F.slot_list_append PySem.F.type_list_append mt_append (pv 2) (pa_cons (pe_tup
          (pa_cons (pe_callB (cr_max rfl) (by rfl) T.z_max (by decide +kernel) (pa_cons (pe_op op_cat (pv 4) (pe_lst (pa_cons pe_int pa_nil))) pa_nil))
          (pa_cons (pe_callB call_len_seq (by rfl) T.z_len PySem.boot_len (pa_cons (pe_call (ok_pairs_of T) hr2 (by rfl) T.pairs_of.g T.pairs_of.F.kp T.pairs_of.b .nil pass0 (pa_cons (pv 3) pa_nil)) pa_nil))
          (pa_cons (pe_call (ok_pairs_of T) hr2 (by rfl) T.pairs_of.g T.pairs_of.F.kp T.pairs_of.b .nil pass0 (pa_cons (pv 3) pa_nil)) (pa_cons (pv 4) (pa_cons (pv 3) pa_nil)))))) pa_nil))))))
      (pss_cons (ps_asg (pe_callB (cr_minD rfl hr.units) (by rfl) T.z_min (by decide +kernel) (pa_cons (pv 2) pa_nil)) (pg_tup rfl (pgs_cons (pg_name (i := 5) sc_soonest.nd rfl (.inl rfl)) (pgs_cons (pg_name (i := 6) sc_soonest.nd rfl (.inl rfl)) (pgs_cons (pg_name (i := 7) sc_soonest.nd rfl (.inl rfl))
          (pgs_cons (pg_name (i := 4) sc_soonest.nd rfl (.inl rfl)) (pgs_cons (pg_name (i := 3) sc_soonest.nd rfl (.inl rfl)) pgs_nil)))))))
      (pss_one (ps_ret (pe_tup (pa_cons (pv 5) (pa_cons (pv 4) (pa_cons (pv 3) pa_nil)))))))), ?_⟩
    refine q_nil (Sep.refl eH) fun l H1 hl A1 => ?_
    refine wq_forL (P := rLs rNs (working steps so wt)) A1.sep.s (w_working (ev_var rfl) hc hlen) fun v Hs1 H1 s1 hv => ?_
    obtain ⟨wa, us, rfl, hwa, al⟩ := hv
    have hal := al.length
    have A2 := A1.step s1
    refine ⟨wa, us, fun i σ H' => ∃ (Hs' : Hp) (ws : List V) (v3 v4 : Option V), σ = [some (.ref c), some (.ref b), some (.ref l), v3, v4, none, none, none] ∧ Acc Hs H l ws Hs' H' ∧ Ex Hs1 Hs' ∧ All2 (fun d u => rKeyS each d u Hs') ((working steps so wt).take i) ws, rfl, sq_of (A2.sep.s _ _ hwa), ⟨Hs1, [], none, none, rfl, A2, Ex.refl _, .nil⟩,
      fun i σ' H' _ ⟨Hs', ws, v3, v4, _, A, e, _⟩ => sq_of (A.sep.s _ _ (e _ _ hwa)), ?_, ?_⟩
    · rintro i x σ' H' hi ⟨Hs', ws, v3, v4, rfl, A, e, alw⟩
      obtain ⟨o, ho, oa, rfl, hoa⟩ := al.get hi
      have hoa' : Hs' oa = some (.lst (nV o)) := e _ _ hoa
      have hol := working_in (List.mem_of_getElem? ho)
      have hb' : Hs' b = some (.lst (nV each)) := A.sep.k _ _ hb
      refine wq_asg (P := rNs (endsOf o each)) A.sep.s (w_evL (el_call (vs := [.ref oa, .ref b]) (ea_cons (ev_var rfl) (ea_cons (ev_var rfl) ea_nil)) (fun H3 e3 Q3 q3 E3 => ⟨oa, b, o, each, rfl, e3 _ _ hoa', e3 _ _ hb', by omega, by omega, q3⟩)) fun p Hs3 _ _ h3 => ⟨p, rfl, h3⟩) fun v Hs3 H3 s3 hv => ?_
      obtain ⟨ea, rfl, hea⟩ := hv
      have A3 := A.step s3
      have hoa3 := s3.k _ _ hoa'
      have hlw := alw.length
      have htl : ((working steps so wt).take i).length ≤ (working steps so wt).length := by rw [List.length_take]; exact Nat.min_le_right _ _
      refine s_appA (P := rKeyS each o) rfl A3 (w_tup (PA := fun vs H => ∃ pv, vs = [.int (through (endsOf o each) : Nat), .int ((pairsOf o).length : Nat), pv, .ref ea, .ref oa] ∧ rLs rPr (pairsOf o) pv H ∧ H ea = some (.lst (nV (endsOf o each))) ∧ H oa = some (.lst (nV o)))
        (wa_cons (P := fun v _ => v = .int (through (endsOf o each) : Nat)) (w_ev ?_ rfl) fun x Hs4 e4 hx => wa_cons (P := fun v _ => v = .int ((pairsOf o).length : Nat)) (w_ev (ev_lenW (w_pairs (ev_var rfl) (e4 _ _ hoa3) (by omega))) rfl) fun y Hs5 e5 hy =>
          wa_cons (P := rLs rPr (pairsOf o)) (w_pairs (ev_var rfl) (e5 _ _ (e4 _ _ hoa3)) (by omega)) fun z Hs6 e6 hz => wa_cons (P := fun v _ => v = .ref ea) (w_ev (ev_var rfl) rfl) fun u Hs7 e7 hu => wa_cons (P := fun v _ => v = .ref oa) (w_ev (ev_var rfl) rfl) fun t Hs8 e8 ht => wa_nil ?_)
        (fun vs H ⟨pv, e, _⟩ => by rw [e]; show 5 ≤ 100000; decide) fun vs Hs4 p Hs5 e4 hv e5 hp h5 => ?_) (by omega) fun v Hs4 H4 s4 hv H5 A5 => ⟨Hs4, ws ++ [v], _, _, rfl, A5, (e.trans s3.k).trans s4.k, ?_⟩
      · refine ev_is (ev_max (ns := endsOf o each ++ [0]) ?_ (by simp)) (by rw [foldl_max0]; rfl)
        have h2 := el_catV (σ := [some (.ref c), some (.ref b), some (.ref l), some (.ref oa), some (.ref ea), none, none, none]) (ta := tVar 4) (ev_var rfl) hea (el_lst (ea_cons (ev_c (v := .int 0)) ea_nil) (by show 1 ≤ 100000; decide)) (by rw [nV_len, endsOf_len]; show _ + 1 ≤ 100000; omega)
        have e9 : nV (endsOf o each ++ [0]) = nV (endsOf o each) ++ [V.int 0] := by simp
        rw [e9]
        exact h2
      · subst hx hy hu ht
        have e38 := ((e4.trans e5).trans e6).trans (e7.trans e8)
        exact ⟨z, rfl, hz.up (fun _ _ _ _ e r => r.up e) (e7.trans e8), e38 _ _ hea, e38 _ _ hoa3⟩
      · obtain ⟨pv, rfl, h6, h7, h8⟩ := hv
        exact ⟨p, pv, .ref ea, .ref oa, rfl, h5, h6.up (fun _ _ _ _ e r => r.up e) e5, ⟨ea, rfl, e5 _ _ h7⟩, ⟨oa, rfl, e5 _ _ h8⟩⟩
      · rw [take_more ho]
        exact (alw.mono fun d u r => r.up (s3.k.trans s4.k)).snoc hv
    · rintro σ' H' ⟨Hs', ws, v3, v4, rfl, A, e, alw⟩
      rw [← hal, List.take_length] at alw
      obtain ⟨x, r, hxl⟩ : ∃ x r, working steps so wt = x :: r := by
        cases q : working steps so wt with
        | nil => exact absurd q hne
        | cons x r => exact ⟨x, r, rfl⟩
      have hloo : soonest each (working steps so wt) = minBy (ltS each) x r := by rw [hxl]; rfl
      have D := A.done
      have alw2 : rLs (rKeyS each) (x :: r) (.ref l) (upd Hs' l (.lst ws)) := ⟨l, ws, rfl, upd_same, by rw [← hxl]; exact alw.mono fun d u r => r.up A.e⟩
      refine (w_min (σ := [some (.ref c), some (.ref b), some (.ref l), v3, v4, none, none, none]) (Q := rKeyS each (minBy (ltS each) x r)) (te := tVar 2) (keyS each) (ltS each) x r (keyS_lt each) (fun a b h => keyS_inj h) (alike_keyS each) (depth_keyS each) (fun a h => by cases h) (fun _ _ _ r => dp_keyS r) (w_ev (ev_var rfl) alw2) fun v Hs2 _ h => h) H' D.s _ fun v Hs3 H3 s3 hv => ?_
      obtain ⟨a, pv, ev, ov, rfl, h2, h3, h4, h5⟩ := hv
      refine ⟨a, _, rfl, SqT.of (s3.s _ _ h2), rfl, _, _, rfl, _, _, rfl, _, _, rfl, _, _, rfl, _, _, rfl, rfl, ?_⟩
      refine ws_ret (P := rSoon each (minBy (ltS each) x r)) s3.s (w_evU (eu_tup (ea_cons (ev_var rfl) (ea_cons (ev_var rfl) (ea_cons (ev_var rfl) ea_nil))) (by show 3 ≤ 100000; decide)) fun p Hs4 e4 _ hp => ⟨p, ev, ov, rfl, hp, h4.up e4, h5.up e4⟩) fun v Hs4 H4 s4 hv => ?_
      refine k v Hs4 H4 (D.trans (s3.trans s4)) ?_
      rw [hloo]
      exact hv
/-! ### first_failing -/
theorem cut1 {α : Type} (l : List V) : cutV l none (some 1) = l.take 1 := by
  unfold cutV
  have e1 : HT.sIx l.length 0 none = 0 := rfl
  have e2 : HT.sIx l.length l.length (some 1) = min 1 l.length := HT.sIx_nat l.length l.length 1
  rw [e1, e2, List.drop_zero, Nat.sub_zero]
  cases l with
  | nil => rfl
  | cons a l =>
    have : min 1 (a :: l).length = 1 := by rw [List.length_cons]; omega
    rw [this]
theorem sc_first : FnScope ["case", "order", "row"] ["case", "order"] (defScope s_first_failing) := ⟨rfl, rfl, rfl, by decide +kernel, rfl, by decide +kernel, by decide +kernel⟩
abbrev N_first : List Str := ["case", "order", "row"]
theorem ok_first (T : All K mg) : FnOk P w K mg base CX0 4 T.first_failing.f T.first_failing.fd ["case", "order"] (spFirst T.Case) := by
  refine T.first_failing.F.ok sc_first (fun vs H Q E h => ?_) (fun cdv A outer s H vs Q E hr h => ?_)
  · obtain ⟨Hs, c, a, steps, so, w, o, rfl, _⟩ := h
    rfl
  · obtain ⟨Hs, c, a, steps, so, wt, o, rfl, eH, hc, ha, hlen, hol, k⟩ := h
    obtain ⟨dx, ls, us0, h1, _, _⟩ := hc.ex
    refine ⟨_, pss_one (ps_ret (pe_slice sl_list (pe_lc (own := [("row", 2)]) (g := gName 2) rfl sc_first.nd
      (pi_list (pe_call (ok_rows_of T) (hr.mono (by decide)) (by rfl) T.rows_of.g T.rows_of.F.kp T.rows_of.b .nil pass0 (pa_cons (pv 1) pa_nil)))
      (blkOk_by (N := N_first) (sc := defScope s_first_failing) (by decide +kernel)) (fun _ _ _ _ _ => pg_name (i := 2) sc_first.nd rfl (.inl rfl))
      (fun _ _ _ _ _ => pts_one (pt_val (pe_meth (pv 0) T.cl_Case T.Case_fails.m (ok_fails T) hr T.Case_fails.b .nil pass0 (pa_cons (pv 2) pa_nil)))) (fun _ _ _ _ _ => pv 2)) po_none (po_some pe_int))), ?_⟩
    refine ws_ret (P := rLs rNs (firstFailing steps so wt o)) eH ?_ k
    have hrows := rowsOf_le o (by omega)
    have hlc : W (tLc (iList K (tCall spRows [] E0 (tCons (tVar 1) tNil))) (gName 2) (tB (tMeth T.Case "fails" (spFails T.Case) [] E0 (tVar 0) (tCons (tVar 2) tNil))) (tVar 2) [2] (L2.start N_first [.ref c, .ref a])) Hs (rLs rNs ((rowsOf o).filter (fails steps so wt))) := by
      refine w_lcD (S := rNs) (R := fun row v H => rNs row v H) (P0 := rLs rNs (rowsOf o)) (fails steps so wt) (fun d v H H' e r => r.up e) (fun d v H H' e r => r.up e) (fun _ => rfl) ?_ ?_
      · exact w_call (PA := fun vs _ => vs = [V.ref a]) (wa_ea (ea_cons (ev_var rfl) ea_nil) rfl) fun vs Hs1 e1 hv => w_sp fun H e Q q => by
          subst hv
          exact ⟨Hs1, a, o, rfl, e, e1 _ _ ha, by omega, q⟩
      · intro v Hs1 e1 hv
        obtain ⟨b, vs, rfl, hb, al⟩ := hv
        have hal := al.length
        refine ⟨b, vs, _, rfl, sq_of hb, by omega, al, fun row x Hs2 hd e2 hx => ?_, fun row x Hs2 hd e2 hx _ => w_ev (ev_var rfl) hx, fun p us Hs2 e2 hp h2 al2 => ⟨p, us, rfl, h2, al2⟩⟩
        obtain ⟨r, rfl, hr⟩ := hx
        have hc2 := hc.up (e1.trans e2)
        obtain ⟨hin, hrl⟩ := rowsTo_in hd
        exact et_B (ev_meth (ev_var rfl) (e2 _ _ (e1 _ _ h1)) (cF_no (by decide +kernel) (by decide +kernel) (by decide +kernel) _ _ _) (ea_cons (ev_var rfl) ea_nil)
          fun H3 e3 Q3 q3 E3 => ⟨c, r, steps, so, wt, row, rfl, hc2.up e3, e3 _ _ hr, by rw [← hol]; exact hin, by omega, q3⟩)
    intro H e R q
    refine hlc H e _ fun v Hs1 H1 s1 hv => ?_
    obtain ⟨b, us, rfl, hb, al⟩ := hv
    refine ⟨1, rfl, b, us, rfl, sq_of (s1.s _ _ hb), fun p hp => q (.ref p) _ _ (s1.trans (Sep.new s1.s hp)) ⟨p, us.take 1, rfl, ?_, ?_⟩⟩
    · rw [upd_same, cut1 (α := V)]
    · exact (al.take 1).mono fun d u r => r.up (Ex.new (fresh_back s1.s hp))
/-! ### with_all_before -/
theorem sc_wab : FnScope ["order", "found", "turn", "step", "one"] ["order"] (defScope s_with_all_before) := ⟨rfl, rfl, rfl, by decide +kernel, rfl, by decide +kernel, by decide +kernel⟩
theorem wabOne_len (f : List Nat) (s o : Nat) : (wabOne f s o).length = f.length := by unfold wabOne; rw [List.length_set]
theorem fold_len {β : Type} (g : List Nat → β → List Nat) (h : ∀ f b, (g f b).length = f.length) : ∀ (l : List β) (f : List Nat), (l.foldl g f).length = f.length
  | [], _ => rfl
  | b :: l, f => by rw [List.foldl_cons, fold_len g h l, h]
theorem wabStep_len (n : Nat) (f : List Nat) (s : Nat) : (wabStep n f s).length = f.length := fold_len _ (fun f b => wabOne_len f s b) _ _
theorem wabTurn_len (n : Nat) (f : List Nat) : (wabTurn n f).length = f.length := fold_len _ (fun f b => wabStep_len n f b) _ _
theorem set_nV (l : List Nat) (j x : Nat) : (nV l).set j (.int (x : Nat)) = nV (l.set j x) := by
  show _ = (l.set j x).map _
  rw [List.map_set]
theorem ok_wab (T : All K mg) : FnOk P w K mg base CX0 2 T.with_all_before.f T.with_all_before.fd ["order"] spWab := by
  refine T.with_all_before.F.ok sc_wab (fun vs H Q E h => ?_) (fun cdv A outer s H vs Q E hr h => ?_)
  · obtain ⟨a, o, rfl, _⟩ := h
    rfl
  · obtain ⟨a, o, rfl, ha, hlen, k⟩ := h
    refine ⟨_, pss_cons (ps_set (i := 1) sc_wab.nd rfl (.inl rfl) (pe_callTy call_list_of (by rfl) T.z_list (by decide +kernel) (pa_cons (pv 0) pa_nil)))
      (pss_cons (ps_for PassesOwn.never rfl (pi_range1 (by rfl) T.z_range (pa_cons (pe_callB call_len_seq (by rfl) T.z_len PySem.boot_len (pa_cons (pv 0) pa_nil)) pa_nil)) (pg_name (i := 2) sc_wab.nd rfl (.inl rfl))
        (pss_one (ps_for PassesOwn.never rfl (pi_range1 (by rfl) T.z_range (pa_cons (pe_callB call_len_seq (by rfl) T.z_len PySem.boot_len (pa_cons (pv 0) pa_nil)) pa_nil)) (pg_name (i := 3) sc_wab.nd rfl (.inl rfl))
          (pss_one (ps_for PassesOwn.never rfl (pi_list (pe_call (ok_members T) hr (by rfl) T.members.g T.members.F.kp T.members.b .nil pass0 (pa_cons (pe_ix ix_list (pv 1) (pv 3) (fun _ _ => rfl)) (pa_cons (pe_callB call_len_seq (by rfl) T.z_len PySem.boot_len (pa_cons (pv 0) pa_nil)) pa_nil)))) (pg_name (i := 4) sc_wab.nd rfl (.inl rfl))
            (pss_one (ps_asg (pe_op op_or (pe_ix ix_list (pv 1) (pv 3) (fun _ _ => rfl)) (pe_ix ix_list (pv 1) (pv 4) (fun _ _ => rfl))) (pg_sub (pv 1) (pv 3) set_list))))))))
      (pss_one (ps_ret (pv 1)))), ?_⟩
    refine q_asgL (xs := nV o) (el_list (ev_var rfl) (sq_of ha)) fun l H1 hl e1 h1 => ?_
    have hlH : H l = none := hl
    refine q_forR1 (n := (o.length : Nat)) (ea_cons (ev_lenI (ev_var rfl) (e1 _ _ ha)) ea_nil) (by omega)
      (fun i σ H' => Ex H H' ∧ ∃ (v2 v3 v4 : Option V), σ = [some (.ref a), some (.ref l), v2, v3, v4] ∧ H' l = some (.lst (nV ((List.range i).foldl (fun f _ => wabTurn o.length f) o))))
      (fun H2 e2 => ⟨e1.trans e2, none, none, none, rfl, e2 _ _ h1⟩) ?_ ?_
    · rintro i σ' H' hi ⟨e0, v2, v3, v4, rfl, hf⟩
      have hfl : ∀ i, ((List.range i).foldl (fun f _ => wabTurn o.length f) o).length = o.length := fun i => fold_len _ (fun f b => wabTurn_len _ f) _ _
      generalize hg : (List.range i).foldl (fun f _ => wabTurn o.length f) o = f0 at hf
      have hf0 : f0.length = o.length := by rw [← hg]; exact hfl i
      refine s_forR1 (n := (o.length : Nat)) (ea_cons (ev_lenI (ev_var rfl) (e0 _ _ ha)) ea_nil) (by omega)
        (fun j σ H' => Ex H H' ∧ ∃ (v3 v4 : Option V), σ = [some (.ref a), some (.ref l), some (.int (i : Nat)), v3, v4] ∧ H' l = some (.lst (nV ((List.range j).foldl (wabStep o.length) f0))))
        (fun H2 e2 => ⟨e0.trans e2, v3, v4, rfl, e2 _ _ hf⟩) ?_ ?_
      · rintro j σ2 H2 hj ⟨e2, w3, w4, rfl, hf2⟩
        generalize hg2 : (List.range j).foldl (wabStep o.length) f0 = f1 at hf2
        have hf1 : f1.length = o.length := by rw [← hg2, fold_len _ (fun f b => wabStep_len _ f b)]; exact hf0
        have hjo : j < o.length := by omega
        refine s_forNL (xs := nV (members (f1.getD j 0) o.length)) (el_call (vs := [.int (f1.getD j 0 : Nat), .int (o.length : Nat)]) (ea_cons (ev_op (ev_var rfl) (ev_var rfl) (rv_ixL (sq_of hf2) (atI_nat (nV_at (by omega))))) (ea_cons (ev_lenI (ev_var rfl) (e2 _ _ ha)) ea_nil)) (fun H3 e3 Q3 q3 E3 => ⟨f1.getD j 0, o.length, rfl, by omega, q3⟩))
          (fun p m σ H' => Ex H H' ∧ H p = none ∧ H' p = some (.lst (nV (members (f1.getD j 0) o.length))) ∧ p ≠ l ∧ ∃ (v4 : Option V), σ = [some (.ref a), some (.ref l), some (.int (i : Nat)), some (.int (j : Nat)), v4] ∧ H' l = some (.lst (nV (((members (f1.getD j 0) o.length).take m).foldl (fun g one => wabOne g j one) f1))))
          (fun p H3 hp e3 h3 => ⟨e2.trans e3, fresh_back e2 hp, h3, (ne_of_none hf2 hp).symm, w4, rfl, e3 _ _ hf2⟩) (fun p m σ' H' _ q => sq_of q.2.2.1) ?_ ?_
        · rintro p m x σ3 H3 hm ⟨e3, hp, hp3, hpl, v4, rfl, hf3⟩
          obtain ⟨d, hd, rfl⟩ := nV_get hm
          have hdo := members_in (List.mem_of_getElem? hd)
          generalize hg3 : ((members (f1.getD j 0) o.length).take m).foldl (fun g one => wabOne g j one) f1 = f2 at hf3
          have hf2l : f2.length = o.length := by rw [← hg3, fold_len _ (fun f b => wabOne_len f j b)]; exact hf1
          refine s_setL (j := j) (v := .int ((f2.getD j 0 ||| f2.getD d 0 : Nat) : Int)) hf3 (ev_is (ev_op (ev_op (ev_var rfl) (ev_var rfl) (rv_ixL (sq_of hf3) (atI_nat (nV_at (by omega))))) (ev_op (ev_var rfl) (ev_var rfl) (rv_ixL (sq_of hf3) (atI_nat (nV_at (by omega))))) rv_I0) (by rw [bit_or])) (ev_var rfl) (ev_var rfl) (by rw [nV_len]; omega) fun H4 e4 => ?_
          refine ⟨(e3.trans e4).mut hlH, hp, ?_, hpl, _, rfl, ?_⟩
          · rw [upd_ne hpl]
            exact e4 _ _ hp3
          · rw [upd_same, set_nV, take_more hd, List.foldl_append, hg3]
            rfl
        · rintro p σ3 H3 ⟨e3, hp, hp3, hpl, v4, rfl, hf3⟩
          rw [nV_len, List.take_length] at hf3
          refine ⟨e3, _, v4, rfl, ?_⟩
          rw [List.range_succ, List.foldl_append, hg2]
          exact hf3
      · rintro σ2 H2 ⟨e2, w3, w4, rfl, hf2⟩
        rw [show ((o.length : Nat) : Int).toNat = o.length by omega] at hf2
        refine ⟨e2, _, w3, w4, rfl, ?_⟩
        rw [List.range_succ, List.foldl_append, hg]
        exact hf2
    · rintro σ' H' ⟨e0, v2, v3, v4, rfl, hf⟩
      rw [show ((o.length : Nat) : Int).toNat = o.length by omega] at hf
      refine s_ret (v := .ref l) (ev_var rfl) fun H4 e4 => k l H4 hlH (e0.trans e4) (e4 _ _ hf)
end
end Lp
end
section
set_option Elab.async false
set_option linter.all false
set_option maxRecDepth 100000
set_option maxHeartbeats 2000000
set_option pp.maxSteps 3000
namespace Lp
open PySem PySem.Spec PyProof.Rows L2 Evl
section
variable {K : PySem.W.Frag} {σ : L2.St} {H Hs : Hp} {ta tb te tl : TE} {t : TT} {v x : V} {vs : List Nat}
/-- a flat comprehension over enumerate(xs), two names -/
theorem el_lcE {a : Addr} {j1 j2 : Nat} (ds : List Nat) (g : Nat → Nat → V) (h : Ev tl σ Hs (.ref a)) (hx : Hs a = some (.lst (nV ds))) (hz : ds.length ≤ 40000) (hw : ∀ x y, wipe (((wipe σ vs).set j1 (some x)).set j2 (some y)) vs = wipe σ vs)
    (he : ∀ (i d : Nat) Hs2, ds[i]? = some d → Ex Hs Hs2 → Ev te (((wipe σ vs).set j1 (some (.int (i : Int)))).set j2 (some (.int (d : Int)))) Hs2 (g i d)) :
    EvL (tLc (iEnum K (tCons tl tNil)) (gTup K 2 (gCons (gName j1) (gCons (gName j2) gNil))) tYes te vs) σ Hs ((List.range ds.length).map fun i => g i (ds.getD i 0)) := by
  refine el_w fun H e Rr q => h H e _ fun H1 e1 => ?_
  have s1 : Sep Hs H Hs H1 := Sep.of e e1
  refine ⟨a, nV ds, rfl, sq_of (s1.s _ _ hx), fun Dl hD => ?_⟩
  refine lc_it walk_enum (fun i H' => ∃ Hs' acc', Acc Hs H1 Dl acc' Hs' H' ∧ acc' = (List.range i).map fun i => g i (ds.getD i 0)) ⟨Hs, [], Acc.new (Sep.refl s1.s) hD, rfl⟩ (fun i H' _ ⟨Hs', acc', A, _⟩ => sq_of (A.sep.s _ _ (A.sep.k _ _ hx)))
    (fun i y H' H2 hi ⟨Hs', acc', A, ea⟩ yy => ?_) (fun H' ⟨Hs', acc', A, ea⟩ => ?_)
  · obtain ⟨T, x1, x2, rfl, hT, rfl, e2, e3⟩ := yy
    obtain rfl := Option.some.inj e2
    obtain ⟨d, hd, rfl⟩ := nV_get e3
    have hilt := (List.getElem?_eq_some_iff.mp hd).1
    have hdo : ds.getD i 0 = d := by rw [List.getD_eq_getElem?_getD, hd]; rfl
    have A2 := A.ext (Ex.new (o := .tup [.int (i : Nat), .int (d : Nat)]) hT)
    refine ⟨T, _, rfl, SqT.of upd_same, rfl, _, _, rfl, _, _, rfl, rfl, hw _ _, ?_⟩
    show te _ _ _
    refine he i d Hs' hd A2.sep.k _ A2.sep.s _ fun H4 e4 => ?_
    have A4 := A2.ext e4
    refine ⟨acc', A4.at_, ?_, Hs', acc' ++ [g i d], A4.put, ?_⟩
    · rw [ea, List.length_map, List.length_range]
      exact sz_lt (by omega)
    · rw [List.range_succ, List.map_append, ea]
      show _ = _ ++ [g i (ds.getD i 0)]
      rw [hdo]
  · rw [nV_len] at ea
    exact q _ _ _ (s1.trans A.done) ⟨Dl, rfl, fresh_back s1.s A.fresh, by rw [upd_same, ea]⟩
/-! zip -/
variable {D : Ends} {tu tz : TS}
theorem s_forZ {tx ty : TE} {j1 j2 : Nat} {xs ys : List V} (hl : xs.length = ys.length) (hx : EvL tx σ H xs) (hy : EvL ty σ H ys) (Pv : Addr → Addr → Nat → L2.St → Hp → Prop)
    (h0 : ∀ a b H1, H a = none → H b = none → Ex H H1 → H1 a = some (.lst xs) → H1 b = some (.lst ys) → Pv a b 0 σ H1) (hq : ∀ a b i σ' H', Pv a b i σ' H' → H' a = some (.lst xs) ∧ H' b = some (.lst ys))
    (hs : ∀ a b (i : Nat) x y σ' H' H2, xs[i]? = some x → ys[i]? = some y → Pv a b i σ' H' → Ex H' H2 → tu { D with nx := Pv a b (i + 1), ct := Pv a b (i + 1), bk := D.nx } ((σ'.set j1 (some x)).set j2 (some y)) H2) (hd : ∀ a b σ' H', Pv a b xs.length σ' H' → D.nx σ' H') :
    tFor (iZip K (tCons tx (tCons ty tNil))) (gTup K 2 (gCons (gName j1) (gCons (gName j2) gNil))) tu D σ H := hx H (Ex.refl H) _ fun a H1 ha e1 h1 => hy H1 e1 _ fun b H2 hb e2 h2 =>
  ⟨a, b, xs, ys, rfl, sq_of (e2 _ _ h1), sq_of h2, for_it (walk_zip (n := xs.length) (by omega)) (Pv a b) (h0 a b H2 ha (fresh_back e1 hb) (e1.trans e2) (e2 _ _ h1) h2) (fun i σ' H' _ p => ⟨sq_of (hq a b i σ' H' p).1, sq_of (hq a b i σ' H' p).2⟩) (fun i x σ' H' H3 hi p y => by
    obtain ⟨T, x1, x2, rfl, hT, rfl, e3, e4⟩ := y
    exact ⟨T, _, rfl, SqT.of upd_same, rfl, _, _, rfl, _, _, rfl, rfl, hs a b i x1 x2 σ' H' _ e3 e4 p (Ex.new hT)⟩) (hd a b)⟩
end
end Lp
end
section
set_option Elab.async false
set_option linter.all false
set_option maxRecDepth 100000
set_option maxHeartbeats 2000000
set_option pp.maxSteps 3000
namespace Lp
open PySem PySem.Spec PyProof.Rows L2 Evl
/-! ### the house in the heap -/
abbrev iV (l : List Int) : List V := l.map V.int
def houseF (facts so w : Nat) (la c oa : Addr) : List (Str × V) := [("facts", .int (facts : Nat)), ("so", .int (so : Nat)), ("wanted", .int (w : Nat)), ("acts", .ref la), ("case", .ref c), ("order", .ref oa)]
section
variable (facts so w : Nat) (la c oa : Addr)
theorem hF_facts : (houseF facts so w la c oa).lookup ("facts" : Str) = some (.int (facts : Nat)) := lk_here
theorem hF_so : (houseF facts so w la c oa).lookup ("so" : Str) = some (.int (so : Nat)) := (lk_past (by decide +kernel)).trans lk_here
theorem hF_wanted : (houseF facts so w la c oa).lookup ("wanted" : Str) = some (.int (w : Nat)) := (lk_past (by decide +kernel)).trans ((lk_past (by decide +kernel)).trans lk_here)
theorem hF_acts : (houseF facts so w la c oa).lookup ("acts" : Str) = some (.ref la) := (lk_past (by decide +kernel)).trans ((lk_past (by decide +kernel)).trans ((lk_past (by decide +kernel)).trans lk_here))
theorem hF_case : (houseF facts so w la c oa).lookup ("case" : Str) = some (.ref c) := (lk_past (by decide +kernel)).trans ((lk_past (by decide +kernel)).trans ((lk_past (by decide +kernel)).trans ((lk_past (by decide +kernel)).trans lk_here)))
theorem hF_order : (houseF facts so w la c oa).lookup ("order" : Str) = some (.ref oa) := (lk_past (by decide +kernel)).trans ((lk_past (by decide +kernel)).trans ((lk_past (by decide +kernel)).trans ((lk_past (by decide +kernel)).trans ((lk_past (by decide +kernel)).trans lk_here))))
theorem hF_put_case (c' : Addr) : putF "case" (.ref c') (houseF facts so w la c oa) = houseF facts so w la c' oa :=
  (put_past (by decide +kernel)).trans (congrArg _ ((put_past (by decide +kernel)).trans (congrArg _ ((put_past (by decide +kernel)).trans (congrArg _ ((put_past (by decide +kernel)).trans (congrArg _ put_here)))))))
theorem hF_put_order (oa' : Addr) : putF "order" (.ref oa') (houseF facts so w la c oa) = houseF facts so w la c oa' :=
  (put_past (by decide +kernel)).trans (congrArg _ ((put_past (by decide +kernel)).trans (congrArg _ ((put_past (by decide +kernel)).trans (congrArg _ ((put_past (by decide +kernel)).trans (congrArg _ ((put_past (by decide +kernel)).trans (congrArg _ put_here)))))))))
end
/-- what __init__ has set, step by step -/
theorem hF_1 (f : Nat) : putF "facts" (.int (f : Nat)) [] = ([("facts", V.int (f : Nat))] : List (Str × V)) := rfl
theorem hF_2 (f s : Nat) : putF "so" (.int (s : Nat)) ([("facts", V.int (f : Nat))] : List (Str × V)) = ([("facts", V.int (f : Nat)), ("so", V.int (s : Nat))] : List (Str × V)) := (put_past (by decide +kernel)).trans rfl
theorem hF_3 (f s w : Nat) : putF "wanted" (.int (w : Nat)) ([("facts", V.int (f : Nat)), ("so", V.int (s : Nat))] : List (Str × V)) = ([("facts", V.int (f : Nat)), ("so", V.int (s : Nat)), ("wanted", V.int (w : Nat))] : List (Str × V)) :=
  (put_past (by decide +kernel)).trans (congrArg _ ((put_past (by decide +kernel)).trans rfl))
theorem hF_4 (f s w : Nat) (la : Addr) : putF "acts" (.ref la) ([("facts", V.int (f : Nat)), ("so", V.int (s : Nat)), ("wanted", V.int (w : Nat))] : List (Str × V)) = ([("facts", V.int (f : Nat)), ("so", V.int (s : Nat)), ("wanted", V.int (w : Nat)), ("acts", V.ref la)] : List (Str × V)) :=
  (put_past (by decide +kernel)).trans (congrArg _ ((put_past (by decide +kernel)).trans (congrArg _ ((put_past (by decide +kernel)).trans rfl))))
theorem hF_5 (f s w : Nat) (la c : Addr) : putF "case" (.ref c) ([("facts", V.int (f : Nat)), ("so", V.int (s : Nat)), ("wanted", V.int (w : Nat)), ("acts", V.ref la)] : List (Str × V)) = ([("facts", V.int (f : Nat)), ("so", V.int (s : Nat)), ("wanted", V.int (w : Nat)), ("acts", V.ref la), ("case", V.ref c)] : List (Str × V)) :=
  (put_past (by decide +kernel)).trans (congrArg _ ((put_past (by decide +kernel)).trans (congrArg _ ((put_past (by decide +kernel)).trans (congrArg _ ((put_past (by decide +kernel)).trans rfl))))))
theorem hF_6 (f s w : Nat) (la c oa : Addr) : putF "order" (.ref oa) ([("facts", V.int (f : Nat)), ("so", V.int (s : Nat)), ("wanted", V.int (w : Nat)), ("acts", V.ref la), ("case", V.ref c)] : List (Str × V)) = houseF f s w la c oa :=
  (put_past (by decide +kernel)).trans (congrArg _ ((put_past (by decide +kernel)).trans (congrArg _ ((put_past (by decide +kernel)).trans (congrArg _ ((put_past (by decide +kernel)).trans (congrArg _ ((put_past (by decide +kernel)).trans rfl))))))))
/-- a house at h, its acts' list at la; Hs: what it holds that never changes -/
structure HouseAt (CH CC : Addr) (Hs H : Hp) (h la : Addr) (m : HouseM) : Prop where
  ob : ∃ dx c oa us, H h = some (.ins CH dx (houseF m.facts m.so m.wanted la c oa)) ∧ H la = some (.lst us) ∧ All2 (fun d u => rAc d u Hs) m.acts us ∧ CaseAt CC Hs c m.steps m.so m.wanted ∧ Hs oa = some (.lst (nV m.order))
  ex : Ex Hs H
  nh : Hs h = none
  nl : Hs la = none
structure Good (m : HouseM) : Prop where
  f1 : 1 ≤ m.facts
  f8 : m.facts ≤ 8
  acts : m.acts.length ≤ 12
  steps : m.steps.length ≤ 5
  order : m.order.length = m.steps.length
section
variable {CH CC : Addr} {Hs Hs' H H' : Hp} {h la : Addr} {m : HouseM}
theorem HouseAt.ext (x : HouseAt CH CC Hs H h la m) (e : Ex H H') : HouseAt CH CC Hs H' h la m := by
  obtain ⟨⟨dx, c, oa, us, h1, h2, h3, h4, h5⟩, ex, nh, nl⟩ := x
  exact ⟨⟨dx, c, oa, us, e _ _ h1, e _ _ h2, h3, h4, h5⟩, ex.trans e, nh, nl⟩
end
def spHouse (CH CC : Addr) : Sp := fun vs H Q _ => ∃ (x dx : Addr) (f s w : Nat), vs = [.ref x, .int (f : Nat), .int (s : Nat), .int (w : Nat)] ∧ H x = some (.ins CH dx []) ∧
  ∀ (H' Hs' : Hp) (la : Addr), HouseAt CH CC Hs' H' x la (HouseM.new f s w) → H la = none → (∀ b o, H b = some o → Hs' b = none) → (∀ b o, H b = some o → b ≠ x → H' b = some o) → Q .non H'
section
variable {P : Program} {w : World} {K : PySem.W.Frag} {mg : Str → Option Value} {base : Heap}
theorem sc_house : FnScope ["self", "facts", "so", "wanted"] ["self", "facts", "so", "wanted"] (defScope s_House_init) := ⟨rfl, rfl, rfl, by decide +kernel, rfl, by decide +kernel, by decide +kernel⟩
theorem ok_house (T : All K mg) : FnOk P w K mg base CX0 3 T.House_init.f T.House_init.fd ["self", "facts", "so", "wanted"] (spHouse T.House T.Case) := by
  refine T.House_init.F.ok sc_house (fun vs H Q E h => ?_) (fun cdv A outer s H vs Q E hr h => ?_)
  · obtain ⟨x, dx, f, s, w, rfl, _⟩ := h
    rfl
  · obtain ⟨x, dx, f, st, wt, rfl, hx, k⟩ := h
    refine ⟨_, pss_cons (ps_fld (pv 0) (pv 1) rfl) (pss_cons (ps_fld (pv 0) (pv 2) rfl) (pss_cons (ps_fld (pv 0) (pv 3) rfl) (pss_cons (ps_fld (pv 0) (pe_lst pa_nil) rfl)
      (pss_cons (ps_fld (pv 0) (pe_make T.mk_Case (ok_case T) hr (by rfl) T.g_Case T.Case_init.b .nil pass0 (pa_cons (pe_lst pa_nil) (pa_cons (pv 2) (pa_cons (pv 3) pa_nil)))) rfl)
      (pss_one (ps_fld (pv 0) (pe_lst pa_nil) rfl)))))), ?_⟩
    refine ⟨_, rfl, _, rfl, x, T.House, dx, _, rfl, hx, T.cl_House, T.na_House_facts, (by show 0 < 1000; decide), ?_⟩
    refine ⟨_, rfl, _, rfl, x, T.House, dx, _, rfl, upd_same, T.cl_House, T.na_House_so, (by show 1 < 1000; decide), ?_⟩
    rw [hF_1, hF_2]
    refine ⟨_, rfl, _, rfl, x, T.House, dx, _, rfl, upd_same, T.cl_House, T.na_House_wanted, (by show 2 < 1000; decide), ?_⟩
    rw [hF_3]
    -- self.acts = []
    refine ⟨Nat.zero_le _, fun la hla => ⟨_, rfl, x, T.House, dx, _, rfl, (by rw [upd_ne (ne_of_none upd_same hla)]; exact upd_same), T.cl_House, T.na_House_acts, (by show 3 < 1000; decide), ?_⟩⟩
    rw [hF_4]
    have xla : x ≠ la := ne_of_none upd_same hla
    have nla : H la = none := by
      rw [upd_ne xla.symm, upd_ne xla.symm, upd_ne xla.symm] at hla
      exact hla
    -- self.case = Case([], so, wanted)
    refine ⟨Nat.zero_le _, fun lc hlc => ⟨_, rfl, _, rfl, fun c dc hc hdc hne => ⟨c, dc, lc, st, wt, rfl, upd_same, fun H3 h3 kp => ⟨rfl, _, rfl, ?_⟩⟩⟩⟩
    generalize hH1 : upd (upd (upd (upd (upd H x (.ins T.House dx [("facts", V.int (f : Nat))])) x (.ins T.House dx [("facts", V.int (f : Nat)), ("so", V.int (st : Nat))])) x (.ins T.House dx [("facts", V.int (f : Nat)), ("so", V.int (st : Nat)), ("wanted", V.int (wt : Nat))])) la (.lst [])) x (.ins T.House dx [("facts", V.int (f : Nat)), ("so", V.int (st : Nat)), ("wanted", V.int (wt : Nat)), ("acts", V.ref la)]) = H1 at hlc hc hdc kp
    have x1 : H1 x = some (.ins T.House dx [("facts", V.int (f : Nat)), ("so", V.int (st : Nat)), ("wanted", V.int (wt : Nat)), ("acts", V.ref la)]) := by rw [← hH1, upd_same]
    have l1 : H1 la = some (.lst []) := by rw [← hH1, upd_ne xla.symm, upd_same]
    have k1 : ∀ b o, H b = some o → b ≠ x → H1 b = some o := fun b o e hb => by
      rw [← hH1, upd_ne hb, upd_ne (ne_of_none e nla), upd_ne hb, upd_ne hb, upd_ne hb]
      exact e
    clear hH1
    -- in H3
    have xlc : x ≠ lc := ne_of_none x1 hlc
    have lalc : la ≠ lc := ne_of_none l1 hlc
    have H2x : (upd H1 lc (.lst [])) x = some (.ins T.House dx [("facts", V.int (f : Nat)), ("so", V.int (st : Nat)), ("wanted", V.int (wt : Nat)), ("acts", V.ref la)]) := by rw [upd_ne xlc]; exact x1
    have H2l : (upd H1 lc (.lst [])) la = some (.lst []) := by rw [upd_ne lalc]; exact l1
    have H2c : (upd H1 lc (.lst [])) lc = some (.lst []) := upd_same
    have kp3 : ∀ b o, (upd H1 lc (.lst [])) b = some o → H3 b = some o := fun b o e => kp b o (by rw [upd_ne (ne_of_none e hc), upd_ne (ne_of_none e hdc)]; exact e) (ne_of_none e hc)
    have x3 := kp3 _ _ H2x
    have l3 := kp3 _ _ H2l
    have c3 := kp3 _ _ H2c
    have xc : x ≠ c := ne_of_none H2x hc
    have lac : la ≠ c := ne_of_none H2l hc
    have lcc : lc ≠ c := ne_of_none H2c hc
    refine ⟨x, T.House, dx, _, rfl, x3, T.cl_House, T.na_House_case, (by show 4 < 1000; decide), ?_⟩
    rw [hF_5]
    -- self.order = []
    refine ⟨Nat.zero_le _, fun oa hoa => ⟨_, rfl, x, T.House, dx, _, rfl, (by rw [upd_ne (ne_of_none upd_same hoa)]; exact upd_same), T.cl_House, T.na_House_order, (by show 5 < 1000; decide), ?_⟩⟩
    rw [hF_6]
    have xoa : x ≠ oa := ne_of_none upd_same hoa
    have noa : H3 oa = none := by
      rw [upd_ne xoa.symm] at hoa
      exact hoa
    have laoa : la ≠ oa := ne_of_none l3 noa
    have lcoa : lc ≠ oa := ne_of_none c3 noa
    have coa : c ≠ oa := ne_of_none h3 noa
    refine k _ (upd (upd (upd (fun _ => none) lc (.lst [])) c (.ins T.Case dc (caseF lc st wt))) oa (.lst [])) la ⟨⟨dx, c, oa, [], upd_same, ?_, .nil, ⟨dc, lc, [], ?_, ?_, .nil⟩, upd_same⟩, ?_, ?_, ?_⟩ nla ?_ ?_
    · rw [upd_ne xla.symm, upd_ne laoa, upd_ne xla.symm]
      exact l3
    · rw [upd_ne coa, upd_same]
      rfl
    · rw [upd_ne lcoa, upd_ne lcc, upd_same]
    · intro b o hb
      by_cases b1 : b = oa
      · subst b1
        rw [upd_same] at hb
        cases hb
        rw [upd_ne xoa.symm, upd_same]
      · rw [upd_ne b1] at hb
        by_cases b2 : b = c
        · subst b2
          rw [upd_same] at hb
          cases hb
          rw [upd_ne xc.symm, upd_ne coa, upd_ne xc.symm]
          exact h3
        · rw [upd_ne b2] at hb
          by_cases b3 : b = lc
          · subst b3
            rw [upd_same] at hb
            cases hb
            rw [upd_ne xlc.symm, upd_ne lcoa, upd_ne xlc.symm]
            exact c3
          · rw [upd_ne b3] at hb
            cases hb
    · rw [upd_ne xoa, upd_ne xc, upd_ne xlc]
    · rw [upd_ne laoa, upd_ne lac, upd_ne lalc]
    · intro b o e
      by_cases hb : b = x
      · subst hb
        rw [upd_ne xoa, upd_ne xc, upd_ne xlc]
      · have e1 := k1 b o e hb
        have blc : b ≠ lc := ne_of_none e1 hlc
        have e2 : (upd H1 lc (.lst [])) b = some o := by rw [upd_ne blc]; exact e1
        rw [upd_ne (ne_of_none (kp3 b o e2) noa), upd_ne (ne_of_none e2 hc), upd_ne blc]
    · intro b o e hb
      have e1 := k1 b o e hb
      have blc : b ≠ lc := ne_of_none e1 hlc
      have e2 : (upd H1 lc (.lst [])) b = some o := by rw [upd_ne blc]; exact e1
      have e3 := kp3 b o e2
      rw [upd_ne hb, upd_ne (ne_of_none e3 noa), upd_ne hb]
      exact e3
end
end Lp
end
section
set_option Elab.async false
set_option linter.all false
set_option maxRecDepth 100000
set_option maxHeartbeats 2000000
set_option pp.maxSteps 3000
namespace Lp
open PySem PySem.Spec PyProof.Rows L2 Evl
theorem rv_b {H : Hp} {g : Int → Int → Bool} {i j : Int} {b : Bool} (e : g i j = b) : RV (rI0 fun i j => .bl (g i j)) (.int i) (.int j) H (.bl b) := rv_I0' (by rw [e])
theorem le_nat (a b : Nat) : decide ((a : Int) ≤ (b : Int)) = decide (a ≤ b) := decide_eq_decide.mpr (by omega)
theorem lt_nat (a b : Nat) : decide ((a : Int) < (b : Int)) = decide (a < b) := decide_eq_decide.mpr (by omega)
theorem ev_pow {σ : L2.St} {H : Hp} {tx : TE} {f : Nat} (h : Ev tx σ H (.int (f : Nat))) (hf : f ≤ 1000) : Ev (tOp (rI CPow fun i j => .int (i * 2 ^ j.toNat)) (tC (.int 1)) tx) σ H (.int ((2 ^ f : Nat) : Int)) :=
  ev_is (ev_op ev_c h (rv_I ⟨by omega, by omega, by decide⟩)) (by rw [shl_nat])
def spBegun (CH CC : Addr) : Sp := fun vs H Q _ => ∃ (f s w : Nat), vs = [.int (f : Nat), .int (s : Nat), .int (w : Nat)] ∧ (begun f s w = none → ∀ p H', H p = none → Ex H H' → H' p = some (.lst []) → Q (.ref p) H') ∧
  (∀ m, begun f s w = some m → ∀ (p h la : Addr) (Hs' H' : Hp), H p = none → H h = none → H la = none → Ex H H' → H' p = some (.lst [.ref h]) → (∀ b o, H b = some o → Hs' b = none) → HouseAt CH CC Hs' H' h la m → Q (.ref p) H')
def spIsAct (CH CC : Addr) : Sp := fun vs H Q _ => ∃ (Hs : Hp) (h la t : Addr) (m : HouseM) (told : List Nat), vs = [.ref h, .ref t] ∧ HouseAt CH CC Hs H h la m ∧ Good m ∧ H t = some (.lst (nV told)) ∧ told.length ≤ 1000 ∧ RetV (.bl (isAct m.facts told)) H Q
def spAct (CH CC : Addr) : Sp := fun vs H Q _ => ∃ (Hs : Hp) (h la t : Addr) (m : HouseM) (told : List Nat), vs = [.ref h, .ref t] ∧ HouseAt CH CC Hs H h la m ∧ Good m ∧ H t = some (.lst (nV told)) ∧ told.length ≤ 1000 ∧ t ≠ la ∧
  ∀ (p : Addr) (H' Hs' : Hp), H p = none → H' p = some (.lst (iV (act m told).2)) → HouseAt CH CC Hs' H' h la (act m told).1 → (∀ b o, H b = some o → Hs b = none → Hs' b = none) → (∀ b o, H b = some o → b ≠ h → b ≠ la → H' b = some o) → Q (.ref p) H'
section
variable {P : Program} {w : World} {K : PySem.W.Frag} {mg : Str → Option Value} {base : Heap}
theorem sc_begun : FnScope ["facts", "so", "wanted"] ["facts", "so", "wanted"] (defScope s_begun) := ⟨rfl, rfl, rfl, by decide +kernel, rfl, by decide +kernel, by decide +kernel⟩
theorem ok_begun (T : All K mg) : FnOk P w K mg base CX0 5 T.begun.f T.begun.fd ["facts", "so", "wanted"] (spBegun T.House T.Case) := by
  refine T.begun.F.ok sc_begun (fun vs H Q E h => ?_) (fun cdv A outer s H vs Q E hr h => ?_)
  · obtain ⟨f, s, w, rfl, _⟩ := h
    rfl
  · obtain ⟨f, st, wt, rfl, k0, k1⟩ := h
    obtain ⟨tF, hF⟩ := T.c_MOST_FACTS
    refine ⟨_, pss_cons (ps_if (PW.pt (pw_or (pt_not (pt_chain op_le op_le pe_int (pv 0) (pe_glob (v := .int 8) (by rfl) hF ⟨_, rfl⟩))) (pw_or (pt_cmpR op_ge (pv 1) (pe_op op_shl pe_int (pv 0)) (nomark _)) (pw_or1 (pt_cmpR op_ge (pv 2) (pe_op op_shl pe_int (pv 0)) (nomark _))))))
        (pss_one (ps_ret (pe_lst pa_nil))) pss_nil)
      (pss_one (ps_ret (pe_lst (pa_cons (pe_make T.mk_House (ok_house T) hr (by rfl) T.g_House T.House_init.b .nil pass0 (pa_cons (pv 0) (pa_cons (pv 1) (pa_cons (pv 2) pa_nil)))) pa_nil)))), ?_⟩
    refine q_when (b := !(decide (1 ≤ f) && decide (f ≤ 8)) || (decide (2 ^ f ≤ st) || decide (2 ^ f ≤ wt))) (et_or (et_not (et_test (ev_chain ev_c (ev_var rfl) (rv_b (le_nat 1 f)) (fun _ => ev_c) (fun _ => rv_b (le_nat f 8))))) fun hb => ?_) ?_ ?_
    · have hf : f ≤ 8 := by
        have := hb
        simp at this
        exact this.2
      exact et_or (et_test (ev_op (ev_var rfl) (ev_pow (ev_var rfl) (by omega)) (rv_b (le_nat _ _)))) fun _ => et_test (ev_op (ev_var rfl) (ev_pow (ev_var rfl) (by omega)) (rv_b (le_nat _ _)))
    · intro hb H1 e1
      refine s_retL (xs := []) (el_lst ea_nil (by decide)) fun p H2 hp e2 h2 => k0 ?_ p H2 (fresh_back e1 hp) (e1.trans e2) h2
      unfold begun
      rw [if_neg]
      intro hc
      have h1 := hc.1
      have h2 := hc.2.1
      have h3 := hc.2.2.1
      have h4 := hc.2.2.2
      simp only [Bool.or_eq_true, Bool.not_eq_true', decide_eq_true_eq, Bool.and_eq_false_iff, decide_eq_false_iff_not] at hb
      rcases hb with (hb | hb) | (hb | hb) <;> omega
    · intro hb H1 e1
      have hbe : begun f st wt = some (HouseM.new f st wt) := by
        unfold begun
        rw [if_pos]
        simp only [Bool.or_eq_false_iff, Bool.not_eq_false', decide_eq_false_iff_not, Bool.and_eq_true, decide_eq_true_eq] at hb
        exact ⟨hb.1.1, hb.1.2, by omega, by omega⟩
      refine ⟨_, rfl, _, rfl, _, rfl, fun x dx hx hdx hne => ⟨x, dx, f, st, wt, rfl, upd_same, fun H2 Hs2 la HA hla hj kp => ⟨rfl, ?_⟩⟩⟩
      have e12 : Ex H1 H2 := fun b o e => kp b o (by rw [upd_ne (ne_of_none e hx), upd_ne (ne_of_none e hdx)]; exact e) (ne_of_none e hx)
      have nla : H1 la = none := by
        have hlx : la ≠ x := fun e => by rw [e, upd_same] at hla; cases hla
        rw [upd_ne hlx] at hla
        by_cases hld : la = dx
        · rw [hld, upd_same] at hla
          cases hla
        · rw [upd_ne hld] at hla
          exact hla
      refine ⟨by show 1 ≤ sizeLine; decide, fun p hp => ?_⟩
      have HA2 := HA.ext (H' := upd H2 p (.lst [.ref x])) (Ex.new hp)
      exact k1 _ hbe p x la Hs2 _ (fresh_back (e1.trans e12) hp) (fresh_back e1 hx) (fresh_back e1 nla) ((e1.trans e12).trans (Ex.new hp)) upd_same (fun b o e => hj b o (by rw [upd_ne (ne_of_none (e1 b o e) hx), upd_ne (ne_of_none (e1 b o e) hdx)]; exact e1 b o e)) HA2
/-! ### is_act, act -/
theorem sc_isact : FnScope ["house", "told", "some"] ["house", "told"] (defScope s_is_act) := ⟨rfl, rfl, rfl, by decide +kernel, rfl, by decide +kernel, by decide +kernel⟩
abbrev N_isact : List Str := ["house", "told", "some"]
theorem cut4 (l : List V) : cutV l none (some 4) = l.take 4 := by
  unfold cutV
  have e1 : HT.sIx l.length 0 none = 0 := rfl
  have e2 : HT.sIx l.length l.length (some 4) = min 4 l.length := HT.sIx_nat l.length l.length 4
  rw [e1, e2, List.drop_zero, Nat.sub_zero]
  by_cases h : 4 ≤ l.length
  · rw [Nat.min_eq_left h]
  · rw [Nat.min_eq_right (by omega), List.take_length, List.take_of_length_le (by omega)]
theorem ok_is_act (T : All K mg) : FnOk P w K mg base CX0 1 T.is_act.f T.is_act.fd ["house", "told"] (spIsAct T.House T.Case) := by
  refine T.is_act.F.ok sc_isact (fun vs H Q E h => ?_) (fun cdv A outer s H vs Q E hr h => ?_)
  · obtain ⟨Hs, h, la, t, m, told, rfl, _⟩ := h
    rfl
  · obtain ⟨Hs, h, la, t, m, told, rfl, HA, G, ht, htl, k⟩ := h
    obtain ⟨dx, c, oa, us, h1, h2, h3, h4, h5⟩ := HA.ob
    obtain ⟨t5, c5⟩ := T.c_NUMBERS_OF_ACT
    obtain ⟨tCo, cC⟩ := T.c_MOST_COST
    refine ⟨_, pss_cons (ps_if (PW.pt (pw_or (pt_cmpR op_ne (pe_callB call_len_seq (by rfl) T.z_len PySem.boot_len (pa_cons (pv 1) pa_nil)) (pe_glob (v := .int 5) (by rfl) c5 ⟨_, rfl⟩) (nomark _))
        (pw_or1 (pt_not (pt_chain op_le op_le pe_int (pe_ix ix_list (pv 1) pe_int (fun _ _ => rfl)) (pe_glob (v := .int 1000) (by rfl) cC ⟨_, rfl⟩)))))) (pss_one (ps_ret pe_bl)) pss_nil)
      (pss_one (ps_ret (pe_callB (cr_all rfl) (by rfl) T.z_all (by decide +kernel) (pa_cons (pe_lc (own := [("some", 2)]) (g := gName 2) (tt := tYes) rfl sc_isact.nd (pi_list (pe_slice sl_list (pv 1) po_none (po_some pe_int))) (blkOk_by (N := N_isact) (sc := defScope s_is_act) (by decide +kernel))
        (fun _ _ _ _ _ => pg_name (i := 2) sc_isact.nd rfl (.inl rfl)) (fun _ _ _ _ _ => pts_nil) (fun _ _ _ _ _ => pe_cmpR op_lt (pv 2) (pe_op (tb := tFld K (tVar 0) "facts") op_shl pe_int (pe_fld (pv 0) rfl)) (nomark _))) pa_nil)))), ?_⟩
    refine q_when (b := !decide (told.length = 5) || !(decide (1 ≤ told.getD 4 0) && decide (told.getD 4 0 ≤ 1000))) (et_or (et_test (ev_is (ev_op (ev_lenI (ev_var rfl) ht) ev_c (rv_ne rfl)) ?_)) fun hb => ?_) ?_ ?_
    · exact congrArg (fun b => V.bl (!b)) (dN _ 5)
    · have h5 : told.length = 5 := by simpa using hb
      exact et_not (et_test (ev_chain ev_c (ev_op (ev_var rfl) ev_c (rv_ixL (sq_of ht) (atI_nat (j := 4) (nV_at (by omega))))) (rv_b (le_nat 1 _)) (fun _ => ev_c) (fun _ => rv_b (le_nat _ 1000))))
    · intro hb H1 e1
      refine s_ret (v := .bl false) ev_c fun H2 e2 => ?_
      have : isAct m.facts told = false := by
        unfold isAct
        cases q1 : decide (told.length = 5) <;> cases q2 : (decide (1 ≤ told.getD 4 0) && decide (told.getD 4 0 ≤ 1000)) <;> rw [q1, q2] at hb <;> simp at hb ⊢
      have kk := k H2 (e1.trans e2)
      rw [this] at kk
      exact kk
    · intro hb H1 e1
      have h5 : decide (told.length = 5) = true ∧ (decide (1 ≤ told.getD 4 0) && decide (told.getD 4 0 ≤ 1000)) = true := by
        cases q1 : decide (told.length = 5) <;> cases q2 : (decide (1 ≤ told.getD 4 0) && decide (told.getD 4 0 ≤ 1000)) <;> rw [q1, q2] at hb <;> simp at hb ⊢
      refine s_ret (v := .bl (isAct m.facts told)) (ev_is (ev_all (bs := (told.take 4).map fun s => decide (s < 2 ^ m.facts)) ?_) ?_) fun H2 e2 => k H2 (e1.trans e2)
      · have h := el_lcNF (K := K) (σ := L2.start N_isact [.ref h, .ref t]) (Hs := H1) (tl := tSl (rSlL K) (tVar 1) tNoPart (tPart (tC (.int 4)))) (t := tYes) (te := tOp (rI0 fun i j => .bl (decide (i < j))) (tVar 2) (tOp (rI CPow fun i j => .int (i * 2 ^ j.toNat)) (tC (.int 1)) (tFld K (tVar 0) "facts"))) (j := 2) (vs := [2])
          (told.take 4) (fun s => V.int (s : Int)) (fun _ => true) (fun s => V.bl (decide (s < 2 ^ m.facts))) ?_ (by rw [List.length_take]; omega) (fun _ => rfl) (fun _ _ _ _ => et_yes) (fun d Hs2 hd e2 _ => ?_)
        · rw [filter_all] at h
          rw [List.map_map]
          exact h
        · have q := el_sl (K := K) (σ := L2.start N_isact [.ref h, .ref t]) (lo := none) (hi := some 4) (ev_var (i := 1) rfl) eo_none (eo_some ev_c) (sq_of (e1 _ _ ht))
          rw [cut4, ← List.map_take] at q
          exact q
        · exact ev_op (ev_var rfl) (ev_pow (ev_fld (ev_var rfl) (e2 _ _ (e1 _ _ h1)) T.cl_House T.na_House_facts (hF_facts _ _ _ _ _ _)) (by have := G.f8; omega)) (rv_b (lt_nat _ _))
      · rw [all_map]
        unfold isAct
        rw [h5.1, h5.2, Bool.true_and, Bool.true_and]
theorem sc_act : FnScope ["house", "told"] ["house", "told"] (defScope s_act) := ⟨rfl, rfl, rfl, by decide +kernel, rfl, by decide +kernel, by decide +kernel⟩
theorem told5 {told : List Nat} (h : told.length = 5) : nV told = actV (actOf told) := by
  match told, h with
  | [a, b, c, d, e], _ => rfl
theorem ok_act (T : All K mg) : FnOk P w K mg base CX0 2 T.act.f T.act.fd ["house", "told"] (spAct T.House T.Case) := by
  refine T.act.F.ok sc_act (fun vs H Q E h => ?_) (fun cdv A outer s H vs Q E hr h => ?_)
  · obtain ⟨Hs, h, la, t, m, told, rfl, _⟩ := h
    rfl
  · obtain ⟨Hs, h, la, t, m, told, rfl, HA, G, ht, htl, htla, k⟩ := h
    obtain ⟨dx, c, oa, us, h1, h2, h3, h4, h5⟩ := HA.ob
    have hul := h3.length
    obtain ⟨tA, cA⟩ := T.c_MOST_ACTS
    obtain ⟨tM, cM⟩ := T.c_TOO_MANY
    obtain ⟨tW, cW⟩ := T.c_WRONG
    have hlen : ∀ H1, Ex H H1 → Ev (tCB (rLenS K) (tCons (tFld K (tVar 0) "acts") tNil)) (L2.start ["house", "told"] [.ref h, .ref t]) H1 (.int (m.acts.length : Nat)) := fun H1 e1 => by
      have q := ev_len (K := K) (σ := L2.start ["house", "told"] [.ref h, .ref t]) (ev_fld (K := K) (ev_var (i := 0) rfl) (e1 _ _ h1) T.cl_House T.na_House_acts (hF_acts _ _ _ _ _ _)) (sq_of (e1 _ _ h2))
      rw [← hul] at q
      exact q
    refine ⟨_, pss_cons (ps_if (pt_cmpR op_eq (pe_callB call_len_seq (by rfl) T.z_len PySem.boot_len (pa_cons (pe_fld (pv 0) rfl) pa_nil)) (pe_glob (v := .int 12) (by rfl) cA ⟨_, rfl⟩) (nomark _)) (pss_one (ps_ret (pe_lst (pa_cons (pe_glob (v := .int (-7)) (by rfl) cM ⟨_, rfl⟩) pa_nil)))) pss_nil)
      (pss_cons (ps_if (pt_not (pt_val (pe_call (ok_is_act T) hr (by rfl) T.is_act.g T.is_act.F.kp T.is_act.b .nil pass0 (pa_cons (pv 0) (pa_cons (pv 1) pa_nil))))) (pss_one (ps_ret (pe_lst (pa_cons (pe_glob (v := .int (-1)) (by rfl) cW ⟨_, rfl⟩) pa_nil)))) pss_nil)
      (pss_cons (ps_expr (pe_bm PySem.F.plainAttrs_list PySem.F.slot_list_append PySem.F.type_list_append mt_append (pe_fld (pv 0) rfl) (pa_cons (pe_callTy call_tuple_of (by rfl) T.z_tuple (by decide +kernel) (pa_cons (pv 1) pa_nil)) pa_nil)))
      (pss_one (ps_ret (pe_lst (pa_cons (pe_op op_sub (pe_callB call_len_seq (by rfl) T.z_len PySem.boot_len (pa_cons (pe_fld (pv 0) rfl) pa_nil)) pe_int) pa_nil)))))), ?_⟩
    refine q_when (b := decide (m.acts.length = 12)) (et_test (ev_is (ev_op (hlen H (Ex.refl H)) ev_c (rv_eq rfl)) (congrArg V.bl (dN _ 12)))) ?_ ?_
    · intro hb H1 e1
      have hb' : m.acts.length = 12 := by simpa using hb
      have e : act m told = (m, [-7]) := by unfold act; rw [if_pos hb']
      refine s_retL (xs := [.int (-7)]) (el_lst (ea_cons ev_c ea_nil) (by decide)) fun p H2 hp e2 h2 => k p H2 Hs (fresh_back e1 hp) (by rw [h2, e]; rfl) (by rw [e]; exact HA.ext (e1.trans e2)) (fun _ _ _ n => n) fun b o eb _ _ => (e1.trans e2) b o eb
    · intro hb H1 e1
      have hb' : ¬ m.acts.length = 12 := by simpa using hb
      refine q_when (b := !(isAct m.facts told)) (et_not (et_B (ev_call (vs := [.ref h, .ref t]) (ea_cons (ev_var rfl) (ea_cons (ev_var rfl) ea_nil)) fun H2 e2 Q2 q2 E2 => ⟨Hs, h, la, t, m, told, rfl, HA.ext (e1.trans e2), G, (e1.trans e2) _ _ ht, htl, q2⟩))) ?_ ?_
      · intro hb2 H2 e2
        have hb3 : isAct m.facts told = false := by simpa using hb2
        have e : act m told = (m, [-1]) := by unfold act; rw [if_neg hb', if_neg (by rw [hb3]; decide)]
        refine s_retL (xs := [.int (-1)]) (el_lst (ea_cons ev_c ea_nil) (by decide)) fun p H3 hp e3 h3 => k p H3 Hs (fresh_back (e1.trans e2) hp) (by rw [h3, e]; rfl) (by rw [e]; exact HA.ext ((e1.trans e2).trans e3)) (fun _ _ _ n => n) fun b o eb _ _ => ((e1.trans e2).trans e3) b o eb
      · intro hb2 H2 e2
        have hb3 : isAct m.facts told = true := by simpa using hb2
        have e12 := e1.trans e2
        have ht5 : told.length = 5 := by
          unfold isAct at hb3
          simp only [Bool.and_eq_true, decide_eq_true_eq] at hb3
          exact hb3.1.1
        have e : act m told = ({ m with acts := m.acts ++ [actOf told] }, [(m.acts.length : Int)]) := by unfold act; rw [if_neg hb', if_pos hb3]
        refine ⟨_, rfl, h, T.House, dx, _, _, rfl, e12 _ _ h1, T.cl_House, T.na_House_acts, hF_acts _ _ _ _ _ _, Or.inl ⟨rfl, us, sq_of (e12 _ _ h2)⟩, ?_⟩
        refine ⟨_, rfl, t, _, rfl, .inl ⟨sq_of (e12 _ _ ht), fun q hq => ⟨la, us, _, rfl, rfl, ?_, ?_, ?_⟩⟩⟩
        · rw [upd_ne (ne_of_none (e12 _ _ h2) hq)]
          exact e12 _ _ h2
        · rw [← hul]
          exact sz_lt (by have := G.acts; omega)
        · have hlq : la ≠ q := ne_of_none (e12 _ _ h2) hq
          have hhl : h ≠ la := ne_of h1 h2 (by intro z; cases z)
          have hhq : h ≠ q := ne_of_none (e12 _ _ h1) hq
          have qs : Hs q = none := fresh_back (HA.ex.trans e12) hq
          have e3 : Ex Hs (upd (upd H2 q (.tup (nV told))) la (.lst (us ++ [V.ref q]))) := Ex.mut ((HA.ex.trans e12).trans (Ex.new hq)) HA.nl
          have HA3 : HouseAt T.House T.Case (upd Hs q (.tup (nV told))) (upd (upd H2 q (.tup (nV told))) la (.lst (us ++ [V.ref q]))) h la { m with acts := m.acts ++ [actOf told] } := by
            refine ⟨⟨dx, c, oa, us ++ [V.ref q], ?_, upd_same, ?_, h4.up (Ex.new qs), (Ex.new qs) _ _ h5⟩, ?_, ?_, ?_⟩
            · rw [upd_ne hhl, upd_ne hhq]
              exact e12 _ _ h1
            · exact (h3.mono fun d u r => r.up (Ex.new qs)).snoc ⟨q, rfl, by rw [upd_same, told5 ht5]⟩
            · intro b o hbo
              by_cases hbq : b = q
              · subst hbq
                rw [upd_same] at hbo
                cases hbo
                rw [upd_ne hlq.symm, upd_same]
              · rw [upd_ne hbq] at hbo
                exact e3 b o hbo
            · rw [upd_ne hhq]
              exact HA.nh
            · rw [upd_ne hlq]
              exact HA.nl
          generalize hH3 : upd (upd H2 q (.tup (nV told))) la (.lst (us ++ [V.ref q])) = H3 at HA3 e3
          have k3 : ∀ b o, H b = some o → b ≠ la → H3 b = some o := fun b o eb hbl => by
            rw [← hH3, upd_ne hbl, upd_ne (ne_of_none (e12 b o eb) hq)]
            exact e12 b o eb
          obtain ⟨dx', c', oa', us', g1, g2, g3, _, _⟩ := HA3.ob
          have gul := g3.length
          have hlen3 : Ev (tCB (rLenS K) (tCons (tFld K (tVar 0) "acts") tNil)) (L2.start ["house", "told"] [.ref h, .ref t]) H3 (.int ((m.acts.length + 1 : Nat) : Int)) := by
            have q := ev_len (K := K) (σ := L2.start ["house", "told"] [.ref h, .ref t]) (ev_fld (K := K) (ev_var (i := 0) rfl) g1 T.cl_House T.na_House_acts (hF_acts _ _ _ _ _ _)) (sq_of g2)
            rw [← gul] at q
            have e9 : ({ m with acts := m.acts ++ [actOf told] } : HouseM).acts.length = m.acts.length + 1 := by simp
            rw [e9] at q
            exact q
          refine s_retL (xs := [.int (m.acts.length : Int)]) (el_lst (ea_cons (ev_is (ev_op hlen3 ev_c rv_I0) ?_) ea_nil) (by show 1 ≤ 100000; decide)) fun p H4 hp e4 h4 => k p H4 (upd Hs q (.tup (nV told))) ?_ (by rw [h4, e]; rfl) (by rw [e]; exact HA3.ext e4) (fun b o eb n => by rw [upd_ne (ne_of_none (e12 b o eb) hq)]; exact n) fun b o eb _ hbl => e4 b o (k3 b o eb hbl)
          · show V.int (((m.acts.length + 1 : Nat) : Int) - 1) = _
            congr 1
            omega
          · cases z : H p with
            | none => rfl
            | some o =>
              by_cases hpl : p = la
              · rw [hpl, g2] at hp
                cases hp
              · rw [k3 p o z hpl] at hp
                cases hp
end
end Lp
end
section
set_option Elab.async false
set_option linter.all false
set_option maxRecDepth 100000
set_option maxHeartbeats 2000000
set_option pp.maxSteps 3000
namespace Lp
open PySem PySem.Spec PyProof.Rows L2 Evl
theorem HouseAt.sep {CH CC : Addr} {Hs Hs' H H' : Hp} {h la : Addr} {m : HouseM} (x : HouseAt CH CC Hs H h la m) (s : Sep Hs H Hs' H') : HouseAt CH CC Hs' H' h la m := by
  obtain ⟨⟨dx, c, oa, us, h1, h2, h3, h4, h5⟩, ex, nh, nl⟩ := x
  exact ⟨⟨dx, c, oa, us, s.h _ _ h1, s.h _ _ h2, h3.mono fun d u r => r.up s.k, h4.up s.k, s.k _ _ h5⟩, s.s, s.j _ _ h1 nh, s.j _ _ h2 nl⟩
theorem ev_methL {σ : L2.St} {H : Hp} {te ta : TE} {a C dx : Addr} {fs : List (Str × V)} {m : Str} {sp : Sp} {E : XK} {xs : List V} {z : V} (h : Ev te σ H (.ref a)) (ho : H a = some (.ins C dx fs)) (l : fs.lookup m = none) (ha : EvL ta σ H xs)
    (hs : ∀ p H1, Ex H H1 → H1 p = some (.lst xs) → SpV sp [.ref a, .ref p] H1 z) : Ev (tMeth C m sp [] E te (tCons ta tNil)) σ H z := fun H1 e Q q =>
  h H1 e _ fun H2 e2 => ⟨a, dx, fs, rfl, e2 a _ (e a _ ho), l, ha H2 (e.trans e2) _ fun p H3 hp e3 h3 => hs p H3 ((e.trans e2).trans e3) h3 H3 (Ex.refl H3) Q (fun H4 e4 => q H4 ((e2.trans e3).trans e4)) E⟩
theorem q_case {D : Ends} {tz : TS} {i : Nat} {C : Addr} {σ : L2.St} {H : Hp} {tl : TE} {tr : TA} {xs : List V} {so w : Nat} {E : XK} (hL : EvL tl σ H xs) (hA : EvA tr σ H [.int (so : Nat), .int (w : Nat)])
    (k : ∀ lp H3, H lp = none → Ex H H3 → H3 lp = some (.lst xs) → ∀ H4, Ex H3 H4 → ∀ x dc H5, H4 x = none → H5 x = some (.ins C dc (caseF lp so w)) → Ex H4 H5 → tz D (σ.set i (some (.ref x))) H5) :
    tSeq (tAsg (tMake C (spCase C) [] E (tCons tl tr)) (gName i)) tz D σ H := by
  show tl σ H _
  refine hL H (Ex.refl H) _ fun lp H3 hlp e3 h3p => ?_
  refine hA H3 e3 _ fun H4 e4 => ?_
  intro x dc hx hdc hne
  refine ⟨x, dc, lp, so, w, rfl, upd_same, fun H5 h5x kp => ⟨rfl, ?_⟩⟩
  exact k lp H3 hlp e3 h3p H4 e4 x dc H5 hx h5x fun b o e => kp b o (by rw [upd_ne (ne_of_none e hx), upd_ne (ne_of_none e hdc)]; exact e) (ne_of_none e hx)
def spPlan (CH CC : Addr) : Sp := fun vs H Q _ => ∃ (Hs : Hp) (h la t : Addr) (m : HouseM) (l : List Nat), vs = [.ref h, .ref t] ∧ HouseAt CH CC Hs H h la m ∧ Good m ∧ H t = some (.lst (nV l)) ∧ l.length ≤ 1000 ∧
  ∀ (p : Addr) (H' Hs' : Hp), H p = none → H' p = some (.lst (iV (plan m l).2)) → HouseAt CH CC Hs' H' h la (plan m l).1 → (∀ b o, H b = some o → Hs b = none → Hs' b = none) → (∀ b o, H b = some o → b ≠ h → b ≠ la → H' b = some o) → Q (.ref p) H'
section
variable {P : Program} {w : World} {K : PySem.W.Frag} {mg : Str → Option Value} {base : Heap}
theorem sc_plan : FnScope ["house", "acts", "case", "one", "step"] ["house", "acts"] (defScope s_plan) := ⟨rfl, rfl, rfl, by decide +kernel, rfl, by decide +kernel, by decide +kernel⟩
abbrev N_plan : List Str := ["house", "acts", "case", "one", "step"]
theorem ok_plan (T : All K mg) : FnOk P w K mg base CX0 7 T.plan.f T.plan.fd ["house", "acts"] (spPlan T.House T.Case) := by
  refine T.plan.F.ok sc_plan (fun vs H Q E h => ?_) (fun cdv A outer s H vs Q E hr h => ?_)
  · obtain ⟨Hs, h, la, t, m, l, rfl, _⟩ := h
    rfl
  · obtain ⟨Hs, h, la, t, m, l, rfl, HA, G, ht, htl, k⟩ := h
    obtain ⟨dx, c, oa, us, h1, h2, h3, h4, h5⟩ := HA.ob
    have hul := h3.length
    obtain ⟨tS, cS⟩ := T.c_MOST_STEPS
    obtain ⟨tN, cN⟩ := T.c_NO_PLAN
    obtain ⟨tW, cW⟩ := T.c_WRONG
    have hr2 : Room 2 _ := hr.mono (by decide)
    have hr3 : Room 3 _ := hr.mono (by decide)
    have hr1 : Room 1 _ := hr.mono (by decide)
    refine ⟨_, pss_cons (ps_if (pt_cmpR op_gt (pe_callB call_len_seq (by rfl) T.z_len PySem.boot_len (pa_cons (pv 1) pa_nil)) (pe_glob (v := .int 5) (by rfl) cS ⟨_, rfl⟩) (nomark _)) (pss_one (ps_ret (pe_lst (pa_cons (pe_glob (v := .int (-1)) (by rfl) cW ⟨_, rfl⟩) pa_nil)))) pss_nil)
      (pss_cons (ps_if (pt_not (pt_val (pe_callB (cr_all rfl) (by rfl) T.z_all (by decide +kernel) (pa_cons (pe_lc (own := [("one", 3)]) (g := gName 3) (tt := tYes) rfl sc_plan.nd (pi_list (pv 1)) (blkOk_by (N := N_plan) (sc := defScope s_plan) (by decide +kernel))
          (fun _ _ _ _ _ => pg_name (i := 3) sc_plan.nd rfl (.inl rfl)) (fun _ _ _ _ _ => pts_nil)
          (fun _ _ _ _ _ => pe_cmpR op_lt (pv 3) (pe_callB (r := rLenS K) (t := tCons (tFld K (tVar 0) "acts") tNil) call_len_seq (by rfl) T.z_len PySem.boot_len (pa_cons (pe_fld (pv 0) rfl) pa_nil)) (nomark _))) pa_nil))))
        (pss_one (ps_ret (pe_lst (pa_cons (pe_glob (v := .int (-5)) (by rfl) cN ⟨_, rfl⟩) pa_nil)))) pss_nil)
      (pss_cons (ps_set (i := 2) sc_plan.nd rfl (.inl rfl) (pe_make T.mk_Case (ok_case T) hr2 (by rfl) T.g_Case T.Case_init.b .nil pass0 (pa_cons (pe_lc (own := [("one", 3)]) (g := gName 3) (tt := tYes) rfl sc_plan.nd (pi_list (pv 1)) (blkOk_by (N := N_plan) (sc := defScope s_plan) (by decide +kernel))
          (fun _ _ _ _ _ => pg_name (i := 3) sc_plan.nd rfl (.inl rfl)) (fun _ _ _ _ _ => pts_nil) (fun _ _ _ _ _ => pe_ix (r := rIxL K) (ta := tFld K (tVar 0) "acts") ix_list (pe_fld (pv 0) rfl) (pv 3) (fun _ _ => rfl)))
          (pa_cons (pe_fld (pv 0) rfl) (pa_cons (pe_fld (pv 0) rfl) pa_nil)))))
      (pss_cons (ps_if (pt_val (pe_meth (pv 2) T.cl_Case T.Case_fails.m (ok_fails T) hr3 T.Case_fails.b .nil pass0 (pa_cons (pe_meth0 (pv 2) T.cl_Case T.Case_all_steps.m (ok_all_steps T) hr1 T.Case_all_steps.b .nil pass0) pa_nil)))
        (pss_one (ps_ret (pe_lst (pa_cons (pe_glob (v := .int (-5)) (by rfl) cN ⟨_, rfl⟩) pa_nil)))) pss_nil)
      (pss_cons (ps_fld (pv 0) (pv 2) rfl)
      (pss_cons (ps_fld (pv 0) (pe_call (ok_loosened T) hr (by rfl) T.loosened.g T.loosened.F.kp T.loosened.b .nil pass0 (pa_cons (pv 2) pa_nil)) rfl)
      (pss_one (ps_ret (pe_lst (pa_cons (pe_callB (cr_sum rfl) (by rfl) T.z_sum (by decide +kernel) (pa_cons (pe_lc (own := [("step", 4)]) (g := gName 4) (tt := tYes) rfl sc_plan.nd (pi_list (pe_fld (pv 2) rfl)) (blkOk_by (N := N_plan) (sc := defScope s_plan) (by decide +kernel))
          (fun _ _ _ _ _ => pg_name (i := 4) sc_plan.nd rfl (.inl rfl)) (fun _ _ _ _ _ => pts_nil) (fun _ _ _ _ _ => pe_ix (r := rIxT K) ix_tup (pv 4) pe_int (fun _ _ => rfl))) pa_nil)) pa_nil))))))))), ?_⟩
    -- len(acts) > MOST_STEPS
    refine q_when (b := decide (5 < l.length)) (et_test (ev_op (ev_lenI (ev_var rfl) ht) ev_c (rv_b (lt_nat 5 _)))) ?_ ?_
    · intro hb H1 e1
      have hb' : 5 < l.length := by simpa using hb
      have e : plan m l = (m, [-1]) := by unfold plan; rw [if_pos hb']
      refine s_retL (xs := [.int (-1)]) (el_lst (ea_cons ev_c ea_nil) (by decide)) fun p H2 hp e2 h2 => k p H2 Hs (fresh_back e1 hp) (by rw [h2, e]; rfl) (by rw [e]; exact HA.ext (e1.trans e2)) (fun _ _ _ n => n) fun b o eb _ _ => (e1.trans e2) b o eb
    intro hb H1 e1
    have hb' : ¬ 5 < l.length := by simpa using hb
    -- the acts are there
    refine q_when (b := !(l.all fun k => decide (k < m.acts.length))) (et_not (et_B (ev_is (ev_all (bs := l.map fun k => decide (k < m.acts.length)) ?_) (by rw [all_map])))) ?_ ?_
    · have q := el_lcF (K := K) (σ := L2.start N_plan [.ref h, .ref t]) (Hs := H1) (tl := tVar 1) (t := tYes) (te := tOp (rI0 fun i j => .bl (decide (i < j))) (tVar 3) (tCB (rLenS K) (tCons (tFld K (tVar 0) "acts") tNil))) (j := 3) (vs := [3])
        l (fun n => V.int ((n : Nat) : Int)) (fun _ => true) (fun n => V.bl (decide (n < m.acts.length))) (ev_var rfl) (sq_of (e1 _ _ ht)) (by omega) (fun _ => rfl) (fun _ _ _ _ => et_yes) (fun d Hs2 hd e2 _ => ?_)
      · rw [filter_all] at q
        rw [List.map_map]
        exact q
      · have q := ev_len (K := K) (ev_fld (K := K) (σ := [some (.ref h), some (.ref t), none, some (.int (d : Int)), none]) (ev_var (i := 0) rfl) (e2 _ _ (e1 _ _ h1)) T.cl_House T.na_House_acts (hF_acts _ _ _ _ _ _)) (sq_of (e2 _ _ (e1 _ _ h2)))
        rw [← hul] at q
        exact ev_op (ev_var rfl) q (rv_b (lt_nat _ _))
    · intro hb2 H2 e2
      have hb3 : ¬ (l.all fun k => decide (k < m.acts.length)) = true := by
        intro z
        rw [z] at hb2
        cases hb2
      have e : plan m l = (m, [-5]) := by unfold plan; rw [if_neg hb', if_neg hb3]
      refine s_retL (xs := [.int (-5)]) (el_lst (ea_cons ev_c ea_nil) (by decide)) fun p H3 hp e3 h3 => k p H3 Hs (fresh_back (e1.trans e2) hp) (by rw [h3, e]; rfl) (by rw [e]; exact HA.ext ((e1.trans e2).trans e3)) (fun _ _ _ n => n) fun b o eb _ _ => ((e1.trans e2).trans e3) b o eb
    intro hb2 H2 e2
    have hb3 : (l.all fun k => decide (k < m.acts.length)) = true := by simpa using hb2
    have hin : ∀ k ∈ l, k < m.acts.length := fun k hk => by simpa using List.all_eq_true.mp hb3 k hk
    have e12 := e1.trans e2
    -- case = Case(..)
    have hL : EvL (tLc (iList K (tVar 1)) (gName 3) tYes (tOp (rIxL K) (tFld K (tVar 0) "acts") (tVar 3)) [3]) (L2.start N_plan [.ref h, .ref t]) H2 (l.map fun k => us.getD k .non) := by
      have q := el_lcF (K := K) (σ := L2.start N_plan [.ref h, .ref t]) (Hs := H2) (tl := tVar 1) (t := tYes) (te := tOp (rIxL K) (tFld K (tVar 0) "acts") (tVar 3)) (j := 3) (vs := [3])
        l (fun n => V.int ((n : Nat) : Int)) (fun _ => true) (fun k => us.getD k .non) (ev_var rfl) (sq_of (e12 _ _ ht)) (by omega) (fun _ => rfl) (fun _ _ _ _ => et_yes) (fun d Hs2 hd e3 _ => ?_)
      · rw [filter_all] at q
        exact q
      · have hdu : d < us.length := by rw [← hul]; exact hin d hd
        refine ev_op (ev_fld (ev_var rfl) (e3 _ _ (e12 _ _ h1)) T.cl_House T.na_House_acts (hF_acts _ _ _ _ _ _)) (ev_var rfl) (rv_ixL (sq_of (e3 _ _ (e12 _ _ h2))) (atI_nat ?_))
        rw [List.getD_eq_getElem?_getD, List.getElem?_eq_getElem hdu]
        rfl
    have hA : EvA (tCons (tFld K (tVar 0) "so") (tCons (tFld K (tVar 0) "wanted") tNil)) (L2.start N_plan [.ref h, .ref t]) H2 [.int (m.so : Nat), .int (m.wanted : Nat)] :=
      ea_cons (ev_fld (ev_var rfl) (e12 _ _ h1) T.cl_House T.na_House_so (hF_so _ _ _ _ _ _)) (ea_cons (ev_fld (ev_var rfl) (e12 _ _ h1) T.cl_House T.na_House_wanted (hF_wanted _ _ _ _ _ _)) ea_nil)
    refine q_case hL hA fun lp H3 hlp e3 h3p H4 e4 x dc H5 hx h5x e45 => ?_
    have hstl : (stepsOf m l).length = l.length := List.length_map ..
    have hst5 : (stepsOf m l).length ≤ 5 := by omega
    have sA : Sep Hs H (upd Hs lp (.lst (l.map fun k => us.getD k .non))) H4 := (Sep.newIn HA.ex (fresh_back e12 hlp) (e12.trans e3) h3p).ext e4
    have sB := sA.trans (Sep.newIn sA.s hx e45 h5x)
    have hx0 := fresh_back sA.s hx
    generalize hHs : upd (upd Hs lp (.lst (l.map fun k => us.getD k .non))) x (.ins T.Case dc (caseF lp m.so m.wanted)) = Hs5 at sB
    have hcase : CaseAt T.Case Hs5 x (stepsOf m l) m.so m.wanted := by
      refine ⟨dc, lp, l.map fun k => us.getD k .non, ?_, ?_, ?_⟩
      · rw [← hHs, upd_same]
      · have : lp ≠ x := fun e => by rw [e, upd_same] at hx0; cases hx0
        rw [← hHs, upd_ne this, upd_same]
      · have q : ∀ r : List Nat, (∀ k ∈ r, k < m.acts.length) → All2 (fun d u => rAc d u Hs5) (r.map fun k => m.acts.getD k noAct) (r.map fun k => us.getD k .non) := by
          intro r
          induction r with
          | nil => intro _; exact .nil
          | cons k r ih =>
            intro hr
            have hk := hr k List.mem_cons_self
            obtain ⟨u, hu, ru⟩ := h3.get' (List.getElem?_eq_getElem hk)
            refine .cons ?_ (ih fun j hj => hr j (List.mem_cons_of_mem _ hj))
            have g1 : m.acts.getD k noAct = m.acts[k] := by rw [List.getD_eq_getElem?_getD, List.getElem?_eq_getElem hk]; rfl
            have g2 : us.getD k .non = u := by rw [List.getD_eq_getElem?_getD, hu]; rfl
            show rAc (m.acts.getD k noAct) (us.getD k .non) Hs5
            rw [g1, g2]
            exact ru.up sB.k
        exact q l hin
    have HB := HA.sep sB
    obtain ⟨dcx, lsx, vsx, cx1, cx2, cx3⟩ := hcase.ex
    -- if case.fails(case.all_steps())
    refine q_when (b := fails (stepsOf m l) m.so m.wanted (List.range l.length)) (et_B (ev_methL (xs := nV (List.range (stepsOf m l).length)) (ev_var rfl) (HB.ex _ _ cx1) (cF_no (by decide +kernel) (by decide +kernel) (by decide +kernel) _ _ _)
      (el_meth (vs := []) (ev_var rfl) (HB.ex _ _ cx1) (cF_no (by decide +kernel) (by decide +kernel) (by decide +kernel) _ _ _) ea_nil fun H6 e6 Q6 q6 E6 => ⟨x, stepsOf m l, m.so, m.wanted, rfl, hcase.up (HB.ex.trans e6), by omega, q6⟩) fun p H6 e6 h6 H7 e7 Q7 q7 E7 => ?_)) ?_ ?_
    · refine ⟨x, p, stepsOf m l, m.so, m.wanted, List.range l.length, rfl, hcase.up ((HB.ex.trans e6).trans e7), ?_, fun j hj => ?_, by rw [List.length_range]; omega, q7⟩
      · rw [hstl] at h6
        exact e7 _ _ h6
      · rw [hstl]
        exact List.mem_range.mp hj
    · intro hf H6 e6
      have e : plan m l = (m, [-5]) := by unfold plan; rw [if_neg hb', if_pos hb3, if_pos hf]
      have e06 := sB.h.trans e6
      refine s_retL (xs := [.int (-5)]) (el_lst (ea_cons ev_c ea_nil) (by decide)) fun p H7 hp e7 h7 => k p H7 Hs5 (fresh_back e06 hp) (by rw [h7, e]; rfl) (by rw [e]; exact HB.ext (e6.trans e7)) sB.j fun b o eb _ _ => (e06.trans e7) b o eb
    intro hf H6 e6
    have e : plan m l = ({ m with steps := stepsOf m l, order := loosened (working (stepsOf m l) m.so m.wanted) }, [((((stepsOf m l).map fun a => a.cost).sum : Nat) : Int)]) := by
      unfold plan
      rw [if_neg hb', if_pos hb3, if_neg (by rw [hf]; decide)]
    have HC := HB.ext e6
    obtain ⟨dx6, c6, oa6, us6, g1, g2, g3, g4, g5⟩ := HC.ob
    have hhx : h ≠ x := ne_of g1 (HC.ex _ _ cx1) (by
      intro z
      have z1 := HO.ins.inj z
      have z2 := z1.2.2
      simp [houseF, caseF] at z2)
    -- house.case = case
    refine ⟨_, rfl, _, rfl, h, T.House, dx6, _, rfl, g1, T.cl_House, T.na_House_case, (by show 6 < 1000; decide), ?_⟩
    rw [hF_put_case]
    have e7 : Ex Hs5 (upd H6 h (.ins T.House dx6 (houseF m.facts m.so m.wanted la x oa6))) := Ex.mut HC.ex HC.nh
    -- house.order = loosened(case)
    refine (w_call (σ := _) (PA := fun vs _ => vs = [V.ref x]) (P := rNs (loosened (working (stepsOf m l) m.so m.wanted))) (wa_ea (Hs := Hs5) (ea_cons (ev_var rfl) ea_nil) rfl) fun vs Hs8 e8 hv => w_sp fun H9 e9 Q9 q9 => ?_) _ e7 _ fun v Hs8 H8 s8 hv => ?_
    · subst hv
      exact ⟨Hs8, x, stepsOf m l, m.so, m.wanted, rfl, e9, hcase.up e8, hst5, working_ne hst5 (by rw [hstl]; exact hf), q9⟩
    obtain ⟨o8, rfl, ho8⟩ := hv
    have hh8 := s8.h _ _ (upd_same (H := H6) (a := h) (o := .ins T.House dx6 (houseF m.facts m.so m.wanted la x oa6)))
    have nh8 : Hs8 h = none := s8.j h _ upd_same HC.nh
    have hla7 : (upd H6 h (.ins T.House dx6 (houseF m.facts m.so m.wanted la x oa6))) la = some (.lst us6) := by
      rw [upd_ne (ne_of g2 g1 (by intro z; cases z))]
      exact g2
    have nl8 : Hs8 la = none := s8.j la _ hla7 HC.nl
    refine ⟨_, rfl, h, T.House, dx6, _, rfl, hh8, T.cl_House, T.na_House_order, (by show 6 < 1000; decide), ?_⟩
    rw [hF_put_order]
    have hlh : la ≠ h := ne_of g2 g1 (by intro z; cases z)
    have HD : HouseAt T.House T.Case Hs8 (upd H8 h (.ins T.House dx6 (houseF m.facts m.so m.wanted la x o8))) h la { m with steps := stepsOf m l, order := loosened (working (stepsOf m l) m.so m.wanted) } := by
      refine ⟨⟨dx6, x, o8, us6, upd_same, ?_, g3.mono fun d u r => r.up s8.k, hcase.up s8.k, ho8⟩, Ex.mut s8.s nh8, nh8, nl8⟩
      rw [upd_ne hlh]
      exact s8.h _ _ hla7
    have kk : ∀ b o, H b = some o → b ≠ h → (upd H8 h (.ins T.House dx6 (houseF m.facts m.so m.wanted la x o8))) b = some o := fun b o eb hbh => by
      rw [upd_ne hbh]
      exact s8.h b o (by rw [upd_ne hbh]; exact e6 b o (sB.h b o eb))
    have hj8 : ∀ b o, H b = some o → Hs b = none → Hs8 b = none := fun b o eb n => by
      by_cases hbh : b = h
      · rw [hbh]
        exact nh8
      · exact s8.j b o (by rw [upd_ne hbh]; exact e6 b o (sB.h b o eb)) (sB.j b o eb n)
    generalize upd H8 h (.ins T.House dx6 (houseF m.facts m.so m.wanted la x o8)) = H10 at HD kk ⊢
    dsimp only
    have hcase8 := hcase.up s8.k
    obtain ⟨dcy, lsy, vsy, cy1, cy2, cy3⟩ := hcase8.ex
    have hyl := cy3.length
    -- return [sum(..)]
    refine s_retL (xs := [.int ((((stepsOf m l).map fun a => a.cost).sum : Nat) : Int)]) (el_lst (ea_cons (ev_is (ev_sum (ns := (stepsOf m l).map fun a => ((a.cost : Nat) : Int)) (el_w ?_)) ?_) ea_nil) (by show 1 ≤ 100000; decide)) fun p H11 hp e11 h11 => k p H11 Hs8 ?_ (by rw [h11, e]; rfl) (by rw [e]; exact HD.ext e11) hj8 fun b o eb hbh _ => e11 b o (kk b o eb hbh)
    · refine w_lcD (S := fun (a : Pn.Act) v _ => v = .int (a.cost : Nat)) (R := rAc) (P0 := fun v _ => v = .ref lsy) (fun _ => true) (fun _ _ _ _ _ r => r) (fun d v H H' e r => r.up e) (fun _ => rfl) (w_ev (ev_fld (ev_var rfl) (HD.ex _ _ cy1) T.cl_Case T.na_Case_steps (cF_steps _ _ _)) rfl) fun v Hs11 e11 hv => ?_
      subst hv
      refine ⟨lsy, vsy, stepsOf m l, rfl, sq_of (e11 _ _ (HD.ex _ _ cy2)), by omega, cy3.mono fun d u r => r.up (HD.ex.trans e11), fun _ _ _ _ _ _ => et_yes, fun a y Hs12 ha e12 hy _ => ?_, fun p us Hs12 e12 hp h12 al12 => ?_⟩
      · obtain ⟨q, rfl, hq⟩ := hy
        exact w_ev (ev_op (ev_var rfl) ev_c (rv_ixT (st_of hq) (atI_nat (j := 4) rfl))) rfl
      · rw [filter_all] at al12
        refine ⟨p, rfl, fresh_back e11 hp, ?_⟩
        rw [h12, al12.eq_map, List.map_map]
        rfl
    · have q : ∀ r : List Pn.Act, (r.map fun a => ((a.cost : Nat) : Int)).sum = (((r.map fun a => a.cost).sum : Nat) : Int) := by
        intro r
        induction r with
        | nil => rfl
        | cons a r ih => rw [List.map_cons, List.sum_cons, ih, List.map_cons, List.sum_cons]; omega
      rw [q]
    · cases z : H p with
      | none => rfl
      | some o =>
        by_cases hph : p = h
        · obtain ⟨_, _, _, _, z1, _⟩ := HD.ob
          rw [hph, z1] at hp
          cases hp
        · rw [kk p o z hph] at hp
          cases hp
end
end Lp
end
section
set_option Elab.async false
set_option linter.all false
set_option maxRecDepth 100000
set_option maxHeartbeats 2000000
set_option pp.maxSteps 3000
namespace Lp
open PySem PySem.Spec PyProof.Rows L2 Evl
theorem iV_ints (l : List Nat) : iV (intsN l) = nV l := by
  show (l.map fun n : Nat => (n : Int)).map V.int = _
  rw [List.map_map]
  rfl
theorem iV_cons (x : Int) (l : List Int) : iV (x :: l) = V.int x :: iV l := rfl
def spHouseL (CH CC : Addr) (f : HouseM → List Int) : Sp := fun vs H Q _ => ∃ (Hs : Hp) (h la : Addr) (m : HouseM), vs = [.ref h] ∧ HouseAt CH CC Hs H h la m ∧ Good m ∧ RetL (iV (f m)) H Q
def ftM (steps : List Pn.Act) (so w : Nat) (o : List Nat) : List Int := match firstFailing steps so w o with
  | [] => [0]
  | row :: _ => 1 :: ((tried steps w 0 so row).1 : Int) :: intsN row
theorem ftM_is (h : HouseM) (o : List Nat) : failingTold h o = ftM h.steps h.so h.wanted o := rfl
def spFT (CC : Addr) : Sp := fun vs H Q _ => ∃ (c a : Addr) (steps : List Pn.Act) (so w : Nat) (o : List Nat), vs = [.ref c, .ref a] ∧ CaseAt CC H c steps so w ∧ H a = some (.lst (nV o)) ∧ steps.length ≤ 5 ∧ o.length = steps.length ∧ RetL (iV (ftM steps so w o)) H Q
def spNear : Sp := fun vs H Q _ => ∃ (a : Addr) (o : List Nat) (i j : Nat), vs = [.ref a, .int (i : Nat), .int (j : Nat)] ∧ H a = some (.lst (nV o)) ∧ o.length ≤ 5 ∧ RetV (.bl (isNear o i j)) H Q
def spWhy (CH CC : Addr) : Sp := fun vs H Q _ => ∃ (Hs : Hp) (h la : Addr) (m : HouseM) (i j : Nat), vs = [.ref h, .int (i : Nat), .int (j : Nat)] ∧ HouseAt CH CC Hs H h la m ∧ Good m ∧ RetL (iV (why m i j)) H Q
theorem el_catVr {σ : L2.St} {H : Hp} {ta tb : TE} {r : Addr} {xs ys : List V} (ha : EvL ta σ H xs) (hb : Ev tb σ H (.ref r)) (hr : H r = some (.lst ys)) (hz : xs.length + ys.length ≤ 100000) : EvL (tOp rCat ta tb) σ H (xs ++ ys) := fun H1 e Q q =>
  ha H1 e _ fun p H2 _ e2 h2 => hb H2 (e.trans e2) _ fun H3 e3 => ⟨p, r, xs, ys, rfl, rfl, e3 p _ h2, e3 _ _ (e2 _ _ (e _ _ hr)), sz_of hz, fun l hl => q l _ (fresh_back (e2.trans e3) hl) ((e2.trans e3).trans (Ex.new hl)) upd_same⟩
theorem ev_eqNil {K : PySem.W.Frag} {σ : L2.St} {H : Hp} {ta : TE} {a : Addr} {xs : List V} (h : Ev ta σ H (.ref a)) (hx : H a = some (.lst xs)) : Ev (tOp (rEqNil K) ta (tLst tNil)) σ H (.bl xs.isEmpty) :=
  ev_opL h (el_lst ea_nil (by decide)) fun p H1 hp e1 H2 e2 Q q => ⟨a, p, xs, rfl, rfl, sq_of (e2 _ _ (e1 _ _ hx)), sq_of (e2 _ _ hp), q H2 (Ex.refl H2)⟩
section
variable {P : Program} {w : World} {K : PySem.W.Frag} {mg : Str → Option Value} {base : Heap}
/-! ### loosen, rows -/
theorem sc_loosen : FnScope ["house"] ["house"] (defScope s_loosen) := ⟨rfl, rfl, rfl, by decide +kernel, rfl, by decide +kernel, by decide +kernel⟩
theorem ok_loosen (T : All K mg) : FnOk P w K mg base CX0 4 T.loosen.f T.loosen.fd ["house"] (spHouseL T.House T.Case loosen) := by
  refine T.loosen.F.ok sc_loosen (fun vs H Q E h => ?_) (fun cdv A outer s H vs Q E hr h => ?_)
  · obtain ⟨Hs, h, la, m, rfl, _⟩ := h
    rfl
  · obtain ⟨Hs, h, la, m, rfl, HA, G, k⟩ := h
    obtain ⟨dx, c, oa, us, h1, h2, h3, h4, h5⟩ := HA.ob
    have ho := HA.ex _ _ h5
    have hol : m.order.length ≤ 5 := by rw [G.order]; exact G.steps
    refine ⟨_, pss_one (ps_ret (pe_op op_cat (pe_lst (pa_cons (pe_callB call_len_seq (by rfl) T.z_len PySem.boot_len (pa_cons (pe_call (ok_pairs_of T) (hr.mono (by decide)) (by rfl) T.pairs_of.g T.pairs_of.F.kp T.pairs_of.b .nil pass0 (pa_cons (pe_fld (pv 0) rfl) pa_nil)) pa_nil)) pa_nil))
      (pe_call (ok_told_pairs T) hr (by rfl) T.told_pairs.g T.told_pairs.F.kp T.told_pairs.b .nil pass0 (pa_cons (pe_fld (pv 0) rfl) pa_nil)))), ?_⟩
    have hf : Ev (tFld K (tVar 0) "order") (L2.start ["house"] [.ref h]) H (.ref oa) := ev_fld (ev_var rfl) h1 T.cl_House T.na_House_order (hF_order _ _ _ _ _ _)
    have e : iV (loosen m) = [V.int ((pairsOf m.order).length : Nat)] ++ nV (toldPairs m.order) := by
      unfold loosen
      rw [iV_cons, iV_ints]
      rfl
    rw [e] at k
    have hp := pairsOf_le m.order hol
    have ht : (nV (toldPairs m.order)).length ≤ 50 := by
      rw [nV_len]
      have := flatMap_le (fun p : Nat × Nat => [p.2, p.1]) 2 (fun _ => Nat.le_refl _) (pairsOf m.order)
      show (toldPairs m.order).length ≤ 50
      unfold toldPairs
      omega
    refine s_retL (el_cat (el_lst (ea_cons (ev_lenW (w_pairs hf ho hol)) ea_nil) (by show 1 ≤ 100000; decide)) (el_call (vs := [.ref oa]) (ea_cons hf ea_nil) fun H1 e1 Q1 q1 E1 => ⟨oa, m.order, rfl, e1 _ _ ho, hol, q1⟩) (by show 1 + _ ≤ 100000; omega)) k
theorem w_rows {σ : L2.St} {Hs : Hp} {tx : TE} {a : Addr} {o : List Nat} {E : XK} (h : Ev tx σ Hs (.ref a)) (ha : Hs a = some (.lst (nV o))) (hl : o.length ≤ 5) : W (tCall spRows [] E (tCons tx tNil) σ) Hs (rLs rNs (rowsOf o)) :=
  w_call (PA := fun vs _ => vs = [V.ref a]) (wa_ea (ea_cons h ea_nil) rfl) fun vs Hs1 e1 hv => w_sp fun H e Q q => by
    subst hv
    exact ⟨Hs1, a, o, rfl, e, e1 _ _ ha, hl, q⟩
theorem flat_le {l : List (List Nat)} {n : Nat} (h : ∀ x ∈ l, x.length ≤ n) : (l.flatMap fun r => r).length ≤ l.length * n := by
  induction l with
  | nil => simp
  | cons a l ih =>
    have := h a List.mem_cons_self
    have := ih fun x hx => h x (List.mem_cons_of_mem _ hx)
    rw [List.flatMap_cons, List.length_append, List.length_cons, Nat.succ_mul]
    omega
theorem sc_hrows : FnScope ["house", "some", "found", "row"] ["house"] (defScope s_rows) := ⟨rfl, rfl, rfl, by decide +kernel, rfl, by decide +kernel, by decide +kernel⟩
theorem ok_rows (T : All K mg) : FnOk P w K mg base CX0 2 T.rows.f T.rows.fd ["house"] (spHouseL T.House T.Case rows) := by
  refine T.rows.F.ok sc_hrows (fun vs H Q E h => ?_) (fun cdv A outer s H vs Q E hr h => ?_)
  · obtain ⟨Hs, h, la, m, rfl, _⟩ := h
    rfl
  · obtain ⟨Hs, h, la, m, rfl, HA, G, k⟩ := h
    obtain ⟨dx, c, oa, us, h1, h2, h3, h4, h5⟩ := HA.ob
    have ho := HA.ex _ _ h5
    have hol : m.order.length ≤ 5 := by rw [G.order]; exact G.steps
    refine ⟨_, pss_cons (ps_set (i := 1) sc_hrows.nd rfl (.inl rfl) (pe_call (ok_rows_of T) hr (by rfl) T.rows_of.g T.rows_of.F.kp T.rows_of.b .nil pass0 (pa_cons (pe_fld (pv 0) rfl) pa_nil)))
      (pss_cons (ps_set (i := 2) sc_hrows.nd rfl (.inl rfl) (pe_lst (pa_cons (pe_callB call_len_seq (by rfl) T.z_len PySem.boot_len (pa_cons (pv 1) pa_nil)) pa_nil)))
      (pss_cons (ps_for PassesOwn.never rfl (pi_list (pv 1)) (pg_name (i := 3) sc_hrows.nd rfl (.inl rfl))
        (pss_one (ps_expr (pe_bm PySem.F.plainAttrs_list PySem.F.slot_list_extend PySem.F.type_list_extend mt_extend (pv 2) (pa_cons (pv 3) pa_nil)))))
      (pss_one (ps_ret (pv 2))))), ?_⟩
    refine wq_asg (P := rLs rNs (rowsOf m.order)) (Ex.refl H) (w_rows (ev_fld (ev_var rfl) h1 T.cl_House T.na_House_order (hF_order _ _ _ _ _ _)) ho hol) fun v Hs1 H1 s1 hv => ?_
    obtain ⟨ra, rs, rfl, hra, al⟩ := hv
    have hal := al.length
    have hrl := rowsOf_le m.order hol
    refine q_asgL (xs := [V.int ((rowsOf m.order).length : Nat)]) ((el_lst (ea_cons (ev_is (ev_len (ev_var rfl) (sq_of hra)) (by rw [hal])) ea_nil) (by show 1 ≤ 100000; decide)).mono s1.s) fun l H2 hl e2 h2l => ?_
    have hl0 : H l = none := fresh_back s1.h hl
    have hls : Hs1 l = none := fresh_back s1.s hl
    have A2 : Acc H H l [V.int ((rowsOf m.order).length : Nat)] Hs1 H2 := ⟨s1.ext e2, hl0, hls, h2l⟩
    refine q_forLn (xs := rs) (ev_var rfl) (sq_of (A2.sep.s _ _ hra)) (fun i σ H' => ∃ (v3 : Option V), σ = [some (.ref h), some (.ref ra), some (.ref l), v3] ∧ Acc H H l (V.int ((rowsOf m.order).length : Nat) :: nV (((rowsOf m.order).take i).flatMap fun r => r)) Hs1 H')
      (fun H3 e3 => ⟨none, rfl, A2.ext e3⟩) (fun i σ' H' _ ⟨v3, _, A⟩ => sq_of (A.sep.s _ _ hra)) ?_ ?_
    · rintro i x σ' H' hi ⟨v3, rfl, A⟩
      obtain ⟨row, hrow, r, rfl, hr2⟩ := al.get hi
      have hrl1 := (rowsTo_in (List.mem_of_getElem? hrow)).2
      refine s_ext (P := fun v _ => v = .ref r) rfl A (w_ev (ev_var rfl) rfl) fun v Hs3 H3 s3 hv => ?_
      have hfl : (((rowsOf m.order).take i).flatMap fun r => r).length ≤ 3125 * 5 := by
        refine Nat.le_trans (flat_le (n := 5) fun x hx => ?_) (Nat.mul_le_mul_right _ (Nat.le_trans ?_ hrl))
        · have := (rowsTo_in (List.mem_of_mem_take hx)).2
          omega
        · rw [List.length_take]
          exact Nat.min_le_right _ _
      refine ⟨r, nV row, hv, s3.k _ _ hr2, ?_, fun H4 A4 => ⟨_, rfl, ?_⟩⟩
      · rw [List.length_cons, nV_len, nV_len]
        omega
      · rw [take_more hrow, List.flatMap_append]
        have A5 : Acc H H l (V.int ((rowsOf m.order).length : Nat) :: (nV (((rowsOf m.order).take i).flatMap fun r => r) ++ nV row)) Hs1 H4 := ⟨⟨A.sep.k, A4.sep.h, fun b o hb => A4.sep.s b o (s3.k b o hb), A.sep.j⟩, A4.fresh, A.out, A4.at_⟩
        simpa using A5
    · rintro σ' H' ⟨v3, rfl, A⟩
      rw [← hal, List.take_length] at A
      refine s_ret (v := .ref l) (ev_var rfl) fun H4 e4 => ?_
      have A4 := A.ext e4
      refine k l H4 A4.fresh A4.sep.h ?_
      rw [A4.at_]
      unfold rows
      rw [iV_cons, iV_ints]
/-! ### failing_told -/
theorem sc_ft : FnScope ["case", "order", "some"] ["case", "order"] (defScope s_failing_told) := ⟨rfl, rfl, rfl, by decide +kernel, rfl, by decide +kernel, by decide +kernel⟩
theorem ok_ft (T : All K mg) : FnOk P w K mg base CX0 5 T.failing_told.f T.failing_told.fd ["case", "order"] (spFT T.Case) := by
  refine T.failing_told.F.ok sc_ft (fun vs H Q E h => ?_) (fun cdv A outer s H vs Q E hr h => ?_)
  · obtain ⟨c, a, steps, so, w, o, rfl, _⟩ := h
    rfl
  · obtain ⟨c, a, steps, so, wt, o, rfl, hc, ha, hlen, hol, k⟩ := h
    obtain ⟨dx, ls, us, h1, h2, h3⟩ := hc.ex
    refine ⟨_, pss_cons (ps_set (i := 2) sc_ft.nd rfl (.inl rfl) (pe_call (ok_first T) hr (by rfl) T.first_failing.g T.first_failing.F.kp T.first_failing.b .nil pass0 (pa_cons (pv 0) (pa_cons (pv 1) pa_nil))))
      (pss_cons (ps_if (pt_cmpR (op_eqNil hr.units) (pv 2) (pe_lst pa_nil) (nomark _)) (pss_one (ps_ret (pe_lst (pa_cons pe_int pa_nil)))) pss_nil)
      (pss_one (ps_ret (pe_op op_cat (pe_lst (pa_cons pe_int (pa_cons (pe_ix ix_tup (pe_meth (pv 0) T.cl_Case T.Case_tried.m (ok_tried T) (hr.mono (by decide)) T.Case_tried.b .nil pass0 (pa_cons (pe_ix ix_list (pv 2) pe_int (fun _ _ => rfl)) pa_nil)) pe_int (fun _ _ => rfl)) pa_nil)))
        (pe_ix ix_list (pv 2) pe_int (fun _ _ => rfl)))))), ?_⟩
    refine wq_asg (P := rLs rNs (firstFailing steps so wt o)) (Ex.refl H) (w_call (PA := fun vs _ => vs = [V.ref c, V.ref a]) (wa_ea (ea_cons (ev_var rfl) (ea_cons (ev_var rfl) ea_nil)) rfl) fun vs Hs1 e1 hv => w_sp fun H e Q q => by
      subst hv
      exact ⟨Hs1, c, a, steps, so, wt, o, rfl, e, hc.up e1, e1 _ _ ha, hlen, hol, q⟩) fun v Hs1 H1 s1 hv => ?_
    obtain ⟨fa, fs, rfl, hfa, al⟩ := hv
    have hfa1 := s1.s _ _ hfa
    refine q_when (et_test (ev_eqNil (ev_var rfl) hfa1)) ?_ ?_
    · intro hb H2 e2
      have e : firstFailing steps so wt o = [] := by
        have := al.length
        cases fs with
        | nil => exact List.eq_nil_of_length_eq_zero this
        | cons _ _ => cases hb
      refine s_retL (xs := [.int 0]) (el_lst (ea_cons ev_c ea_nil) (by decide)) fun p H3 hp e3 h3 => k p H3 (fresh_back (s1.h.trans e2) hp) ((s1.h.trans e2).trans e3) ?_
      rw [h3]
      unfold ftM
      rw [e]
      rfl
    · intro hb H2 e2
      generalize hff : firstFailing steps so wt o = ff at al
      cases al with
      | nil => cases hb
      | @cons row u rs us r1 r2 =>
        obtain ⟨q, rfl, hq⟩ := r1
        have hmem : row ∈ (rowsOf o).filter (fails steps so wt) := by
          have : row ∈ firstFailing steps so wt o := by rw [hff]; exact List.mem_cons_self
          exact List.mem_of_mem_take this
        obtain ⟨hin, hrl⟩ := rowsTo_in (List.mem_filter.mp hmem).1
        have hft : ftM steps so wt o = 1 :: ((tried steps wt 0 so row).1 : Int) :: intsN row := by
          unfold ftM
          rw [hff]
        have e12 : Ex Hs1 H2 := s1.s.trans e2
        have e02 : Ex H H2 := s1.h.trans e2
        have hq2 := e12 _ _ hq
        have hi : ∀ H3, Ex H2 H3 → Ev (tOp (rIxL K) (tVar 2) (tC (.int 0))) [some (.ref c), some (.ref a), some (.ref fa)] H3 (.ref q) := fun H3 e3 => ev_op (ev_var rfl) ev_c (rv_ixL (sq_of (e3 _ _ (e2 _ _ hfa1))) (atI_nat (j := 0) rfl))
        refine s_retL (xs := iV (ftM steps so wt o)) ?_ fun p H3 hp e3 h3 => k p H3 (fresh_back e02 hp) (e02.trans e3) h3
        rw [hft]
        have e9 : iV (1 :: ((tried steps wt 0 so row).1 : Int) :: intsN row) = [V.int 1, V.int ((tried steps wt 0 so row).1 : Nat)] ++ nV row := by
          rw [iV_cons, iV_cons, iV_ints]
          rfl
        rw [e9]
        refine el_catVr (el_lst (ea_cons ev_c (ea_cons (ev_ixU (xs := [.int ((tried steps wt 0 so row).1 : Nat), .bl (tried steps wt 0 so row).2]) (eu_meth (vs := [.ref q]) (ev_var rfl) (e02 _ _ h1) (cF_no (by decide +kernel) (by decide +kernel) (by decide +kernel) _ _ _) (ea_cons (hi H2 (Ex.refl H2)) ea_nil) ?_) ev_c (atI_nat (j := 0) rfl)) ea_nil)) (by show 2 ≤ 100000; decide)) (hi H2 (Ex.refl H2)) hq2 ?_
        · exact fun H3 e3 Q3 q3 E3 => ⟨c, q, steps, so, wt, row, rfl, hc.up (e02.trans e3), e3 _ _ hq2, by rw [← hol]; exact hin, by omega, q3⟩
        · rw [nV_len]
          show 2 + _ ≤ 100000
          omega
end
end Lp
end
section
set_option Elab.async false
set_option linter.all false
set_option maxRecDepth 100000
set_option maxHeartbeats 2000000
set_option pp.maxSteps 3000
namespace Lp
open PySem PySem.Spec PyProof.Rows L2 Evl
theorem bit_ge {x i : Nat} (h : x.testBit i = true) : 2 ^ i ≤ x := Nat.ge_two_pow_of_testBit h
theorem ev_eqNilW {α : Type} {K : PySem.W.Frag} {R : α → V → Hp → Prop} {σ : L2.St} {H : Hp} {ta : TE} {l : List α} (h : W (ta σ) H (rLs R l)) : Ev (tOp (rEqNil K) ta (tLst tNil)) σ H (.bl l.isEmpty) := fun H1 e Q q =>
  h H1 e _ fun v Hs2 H2 s2 ⟨a, us, hv, ha, al⟩ => by
    subst hv
    refine ⟨Nat.zero_le _, fun p hp => ⟨a, p, us, rfl, rfl, ?_, sq_of upd_same, ?_⟩⟩
    · rw [show SqL K (upd H2 p (.lst [])) a us ↔ True from ⟨fun _ => trivial, fun _ => sq_of (by rw [upd_ne (ne_of_none (s2.s _ _ ha) hp)]; exact s2.s _ _ ha)⟩]
      trivial
    · have e9 : us.isEmpty = l.isEmpty := by
        have := al.length
        cases us <;> cases l <;> simp at this ⊢
      rw [e9]
      exact q _ (s2.h.trans (Ex.new hp))
section
variable {P : Program} {w : World} {K : PySem.W.Frag} {mg : Str → Option Value} {base : Heap}
/-! ### is_near_pair, why -/
theorem sc_near : FnScope ["order", "step", "later", "one"] ["order", "step", "later"] (defScope s_is_near_pair) := ⟨rfl, rfl, rfl, by decide +kernel, rfl, by decide +kernel, by decide +kernel⟩
abbrev N_near : List Str := ["order", "step", "later", "one"]
theorem ok_near (T : All K mg) : FnOk P w K mg base CX0 2 T.is_near_pair.f T.is_near_pair.fd ["order", "step", "later"] spNear := by
  refine T.is_near_pair.F.ok sc_near (fun vs H Q E h => ?_) (fun cdv A outer s H vs Q E hr h => ?_)
  · obtain ⟨a, o, i, j, rfl, _⟩ := h
    rfl
  · obtain ⟨a, o, i, j, rfl, ha, hlen, k⟩ := h
    have hm : ∀ {σ : L2.St} {H1 : Hp} {te : TE} {d : Nat} {E' : XK}, Ex H H1 → d < o.length → Ev te σ H1 (.int (d : Nat)) → σ[0]? = some (some (.ref a)) → EvL (tCall spMembers [] E' (tCons (tOp (rIxL K) (tVar 0) te) (tCons (tCB (rLenS K) (tCons (tVar 0) tNil)) tNil))) σ H1 (nV (members (o.getD d 0) o.length)) := fun {σ H1 te d E'} e1 hd he hσ =>
      el_call (vs := [.int (o.getD d 0 : Nat), .int (o.length : Nat)]) (ea_cons (ev_op (ev_var hσ) he (rv_ixL (sq_of (e1 _ _ ha)) (atI_nat (nV_at hd)))) (ea_cons (ev_lenI (ev_var hσ) (e1 _ _ ha)) ea_nil)) fun H3 e3 Q3 q3 E3 => ⟨o.getD d 0, o.length, rfl, by omega, q3⟩
    refine ⟨_, pss_cons (ps_if (PW.pt (pw_or (pt_cmpR op_ge (pv 2) (pe_callB call_len_seq (by rfl) T.z_len PySem.boot_len (pa_cons (pv 0) pa_nil)) (nomark _))
        (pw_or1 (pt_cmpR op_notIn_seq (pv 1) (pe_call (ok_members T) hr (by rfl) T.members.g T.members.F.kp T.members.b .nil pass0 (pa_cons (pe_ix ix_list (pv 0) (pv 2) (fun _ _ => rfl)) (pa_cons (pe_callB call_len_seq (by rfl) T.z_len PySem.boot_len (pa_cons (pv 0) pa_nil)) pa_nil))) (by rfl)))))
        (pss_one (ps_ret pe_bl)) pss_nil)
      (pss_one (ps_ret (pe_not (pe_callB (cr_any rfl) (by rfl) T.z_any (by decide +kernel) (pa_cons (pe_lc (own := [("one", 3)]) (g := gName 3) (tt := tYes) rfl sc_near.nd
        (pi_list (pe_call (ok_members T) hr (by rfl) T.members.g T.members.F.kp T.members.b .nil pass0 (pa_cons (pe_ix ix_list (pv 0) (pv 2) (fun _ _ => rfl)) (pa_cons (pe_callB call_len_seq (by rfl) T.z_len PySem.boot_len (pa_cons (pv 0) pa_nil)) pa_nil))))
        (blkOk_by (N := N_near) (sc := defScope s_is_near_pair) (by decide +kernel)) (fun _ _ _ _ _ => pg_name (i := 3) sc_near.nd rfl (.inl rfl)) (fun _ _ _ _ _ => pts_nil)
        (fun _ _ _ _ _ => pe_cmpR (r := rIn K false) op_in_seq (pv 1) (pe_call (ok_members T) hr (by rfl) T.members.g T.members.F.kp T.members.b .nil pass0 (pa_cons (pe_ix (r := rIxL K) ix_list (pv 0) (pv 3) (fun _ _ => rfl)) (pa_cons (pe_callB (r := rLenS K) call_len_seq (by rfl) T.z_len PySem.boot_len (pa_cons (pv 0) pa_nil)) pa_nil))) (by rfl))) pa_nil))))), ?_⟩
    refine q_when (b := decide (o.length ≤ j) || !(members (o.getD j 0) o.length).contains i) (et_or (et_test (ev_op (ev_var rfl) (ev_lenI (ev_var rfl) ha) (rv_b (le_nat _ _)))) fun hb => ?_) ?_ ?_
    · have hj : j < o.length := by simpa using hb
      refine et_test (ev_is (ev_opL (ev_var rfl) (hm (Ex.refl H) hj (ev_var rfl) rfl) fun p H1 hp _ => rv_niL (sq_of hp) rfl (flat_nat _)) ?_)
      rw [inV_nat]
    · intro hb H1 e1
      refine s_ret (v := .bl false) ev_c fun H2 e2 => ?_
      have e : isNear o i j = false := by
        unfold isNear
        rcases Bool.or_eq_true_iff.mp hb with z | z
        · have : ¬ j < o.length := by simpa using z
          simp [this]
        · have : (members (o.getD j 0) o.length).contains i = false := by simpa using z
          rw [this]
          simp
      have kk := k H2 (e1.trans e2)
      rw [e] at kk
      exact kk
    · intro hb H1 e1
      have hb2 := Bool.or_eq_false_iff.mp hb
      have hj : j < o.length := by simpa using hb2.1
      have hc : (members (o.getD j 0) o.length).contains i = true := by simpa using hb2.2
      have e : isNear o i j = !(members (o.getD j 0) o.length).any fun one => (members (o.getD one 0) o.length).contains i := by
        unfold isNear
        rw [decide_eq_true hj, hc]
        rfl
      refine s_ret (v := .bl (isNear o i j)) (ev_is (ev_notV (ev_any (bs := (members (o.getD j 0) o.length).map fun one => (members (o.getD one 0) o.length).contains i) ?_)) ?_) fun H2 e2 => k H2 (e1.trans e2)
      · have q := el_lcNF (K := K) (σ := L2.start N_near [.ref a, .int (i : Nat), .int (j : Nat)]) (Hs := H1) (tl := tCall spMembers [] E0 (tCons (tOp (rIxL K) (tVar 0) (tVar 2)) (tCons (tCB (rLenS K) (tCons (tVar 0) tNil)) tNil))) (t := tYes)
          (te := tOp (rIn K false) (tVar 1) (tCall spMembers [] E0 (tCons (tOp (rIxL K) (tVar 0) (tVar 3)) (tCons (tCB (rLenS K) (tCons (tVar 0) tNil)) tNil)))) (j := 3) (vs := [3])
          (members (o.getD j 0) o.length) (fun s => V.int (s : Int)) (fun _ => true) (fun one => V.bl ((members (o.getD one 0) o.length).contains i)) (hm e1 hj (ev_var rfl) rfl)
          (Nat.le_trans (members_le _ _) (by omega)) (fun _ => rfl) (fun _ _ _ _ => et_yes) (fun d Hs2 hd e2 _ => ?_)
        · rw [filter_all] at q
          rw [List.map_map]
          exact q
        · refine ev_is (ev_opL (ev_var rfl) (hm (e1.trans e2) (members_in hd) (ev_var rfl) rfl) fun p H3 hp _ => rv_isL (sq_of hp) rfl (flat_nat _)) ?_
          rw [inV_nat]
      · rw [any_map, e]
theorem sc_why : FnScope ["house", "step", "later", "order"] ["house", "step", "later"] (defScope s_why) := ⟨rfl, rfl, rfl, by decide +kernel, rfl, by decide +kernel, by decide +kernel⟩
theorem ok_why (T : All K mg) : FnOk P w K mg base CX0 6 T.why.f T.why.fd ["house", "step", "later"] (spWhy T.House T.Case) := by
  refine T.why.F.ok sc_why (fun vs H Q E h => ?_) (fun cdv A outer s H vs Q E hr h => ?_)
  · obtain ⟨Hs, h, la, m, i, j, rfl, _⟩ := h
    rfl
  · obtain ⟨Hs, h, la, m, i, j, rfl, HA, G, k⟩ := h
    obtain ⟨dx, c, oa, us, h1, h2, h3, h4, h5⟩ := HA.ob
    have ho := HA.ex _ _ h5
    have hol : m.order.length ≤ 5 := by rw [G.order]; exact G.steps
    obtain ⟨tN, cN⟩ := T.c_NO_PAIR
    refine ⟨_, pss_cons (ps_if (pt_not (pt_val (pe_call (ok_near T) (hr.mono (by decide)) (by rfl) T.is_near_pair.g T.is_near_pair.F.kp T.is_near_pair.b .nil pass0 (pa_cons (pe_fld (pv 0) rfl) (pa_cons (pv 1) (pa_cons (pv 2) pa_nil)))))) (pss_one (ps_ret (pe_lst (pa_cons (pe_glob (v := .int (-2)) (by rfl) cN ⟨_, rfl⟩) pa_nil)))) pss_nil)
      (pss_cons (ps_set (i := 3) sc_why.nd rfl (.inl rfl) (pe_callTy call_list_of (by rfl) T.z_list (by decide +kernel) (pa_cons (pe_fld (pv 0) rfl) pa_nil)))
      (pss_cons (ps_asg (pe_op op_sub (pe_ix ix_list (pv 3) (pv 2) (fun _ _ => rfl)) (pe_op op_shl pe_int (pv 1))) (pg_sub (pv 3) (pv 2) set_list))
      (pss_one (ps_ret (pe_call (ok_ft T) hr (by rfl) T.failing_told.g T.failing_told.F.kp T.failing_told.b .nil pass0 (pa_cons (pe_fld (pv 0) rfl) (pa_cons (pv 3) pa_nil))))))), ?_⟩
    have hf : ∀ {σ : L2.St} {H1 : Hp}, Ex H H1 → σ[0]? = some (some (.ref h)) → Ev (tFld K (tVar 0) "order") σ H1 (.ref oa) := fun e1 hσ => ev_fld (ev_var hσ) (e1 _ _ h1) T.cl_House T.na_House_order (hF_order _ _ _ _ _ _)
    refine q_when (b := !isNear m.order i j) (et_not (et_B (ev_call (vs := [.ref oa, .int (i : Nat), .int (j : Nat)]) (ea_cons (hf (Ex.refl H) rfl) (ea_cons (ev_var rfl) (ea_cons (ev_var rfl) ea_nil))) fun H2 e2 Q2 q2 E2 => ⟨oa, m.order, i, j, rfl, e2 _ _ ho, hol, q2⟩))) ?_ ?_
    · intro hb H1 e1
      have hb' : isNear m.order i j = false := by simpa using hb
      have e : why m i j = [-2] := by unfold why; rw [if_neg (by rw [hb']; decide)]
      refine s_retL (xs := [.int (-2)]) (el_lst (ea_cons ev_c ea_nil) (by decide)) fun p H2 hp e2 h2 => k p H2 (fresh_back e1 hp) (e1.trans e2) ?_
      rw [h2, e]
      rfl
    · intro hb H1 e1
      have hb' : isNear m.order i j = true := by simpa using hb
      have e : why m i j = ftM m.steps m.so m.wanted (m.order.set j (m.order.getD j 0 - 2 ^ i)) := by unfold why; rw [if_pos hb']; rfl
      rw [e] at k
      have hn := hb'
      unfold isNear at hn
      simp only [Bool.and_eq_true, decide_eq_true_eq, Bool.not_eq_true'] at hn
      have hj := hn.1.1
      have hmem : i ∈ members (m.order.getD j 0) m.order.length := by
        have := hn.1.2
        simpa using this
      have hi := members_in hmem
      have hbit : (m.order.getD j 0).testBit i = true := (List.mem_filter.mp hmem).2
      have hge := bit_ge hbit
      refine q_asgL (xs := nV m.order) (el_list (hf e1 rfl) (sq_of (e1 _ _ ho))) fun l H2 hl e2 h2l => ?_
      have hlH : H l = none := fresh_back e1 hl
      refine q_setL (j := j) (v := .int ((m.order.getD j 0 - 2 ^ i : Nat) : Int)) h2l (ev_is (ev_op (ev_op (ev_var rfl) (ev_var rfl) (rv_ixL (sq_of h2l) (atI_nat (nV_at hj)))) (ev_pow (ev_var rfl) (by omega)) rv_I0) (congrArg V.int (by omega))) (ev_var rfl) (ev_var rfl) (by rw [nV_len]; exact hj) fun H3 e3 => ?_
      have e03 : Ex H (upd H3 l (.lst ((nV m.order).set j (.int ((m.order.getD j 0 - 2 ^ i : Nat) : Int))))) := ((e1.trans e2).trans e3).mut hlH
      have hl3 : (upd H3 l (.lst ((nV m.order).set j (.int ((m.order.getD j 0 - 2 ^ i : Nat) : Int))))) l = some (.lst (nV (m.order.set j (m.order.getD j 0 - 2 ^ i)))) := by rw [upd_same, set_nV]
      generalize upd H3 l (.lst ((nV m.order).set j (.int ((m.order.getD j 0 - 2 ^ i : Nat) : Int)))) = H4 at e03 hl3 ⊢
      dsimp only
      refine s_retL (el_call (vs := [.ref c, .ref l]) (ea_cons (ev_fld (ev_var rfl) (e03 _ _ h1) T.cl_House T.na_House_case (hF_case _ _ _ _ _ _)) (ea_cons (ev_var rfl) ea_nil)) fun H5 e5 Q5 q5 E5 => ⟨c, l, m.steps, m.so, m.wanted, _, rfl, h4.up (HA.ex.trans (e03.trans e5)), e5 _ _ hl3, G.steps, by rw [List.length_set]; exact G.order, q5⟩) fun p H5 hp e5 h5' => k p H5 (fresh_back e03 hp) (e03.trans e5) h5'
end
end Lp
end
section
set_option Elab.async false
set_option linter.all false
set_option maxRecDepth 100000
set_option maxHeartbeats 2000000
set_option pp.maxSteps 3000
namespace Lp
open PySem PySem.Spec PyProof.Rows L2 Evl
def spSoonTold (CH CC : Addr) : Sp := fun vs H Q _ => ∃ (Hs : Hp) (h la t : Addr) (m : HouseM) (each : List Nat), vs = [.ref h, .ref t] ∧ HouseAt CH CC Hs H h la m ∧ Good m ∧ H t = some (.lst (nV each)) ∧ each.length ≤ 1000 ∧ RetL (iV (soonestTold m each)) H Q
def spCheck (CH CC : Addr) : Sp := fun vs H Q _ => ∃ (Hs : Hp) (h la t : Addr) (m : HouseM) (ps : List Nat), vs = [.ref h, .ref t] ∧ HouseAt CH CC Hs H h la m ∧ Good m ∧ H t = some (.lst (nV ps)) ∧ ps.length ≤ 1000 ∧ RetL (iV (check m ps)) H Q
section
variable {P : Program} {w : World} {K : PySem.W.Frag} {mg : Str → Option Value} {base : Heap}
theorem sc_st : FnScope ["house", "each", "through", "ends", "order", "one"] ["house", "each"] (defScope s_soonest_told) := ⟨rfl, rfl, rfl, by decide +kernel, rfl, by decide +kernel, by decide +kernel⟩
abbrev N_st : List Str := ["house", "each", "through", "ends", "order", "one"]
theorem ok_soonest_told (T : All K mg) : FnOk P w K mg base CX0 7 T.soonest_told.f T.soonest_told.fd ["house", "each"] (spSoonTold T.House T.Case) := by
  refine T.soonest_told.F.ok sc_st (fun vs H Q E h => ?_) (fun cdv A outer s H vs Q E hr h => ?_)
  · obtain ⟨Hs, h, la, t, m, each, rfl, _⟩ := h
    rfl
  · obtain ⟨Hs, h, la, t, m, each, rfl, HA, G, ht, htl, k⟩ := h
    obtain ⟨dx, c, oa, us, h1, h2, h3, h4, h5⟩ := HA.ob
    obtain ⟨dc, ls, vs, c1, c2, c3⟩ := h4.ex
    have hcl := c3.length
    have hst := G.steps
    obtain ⟨tW, cW⟩ := T.c_WRONG
    obtain ⟨tCo, cC⟩ := T.c_MOST_COST
    refine ⟨_, pss_cons (ps_if (PW.pt (pw_or (pt_cmpR op_ne (pe_callB call_len_seq (by rfl) T.z_len PySem.boot_len (pa_cons (pv 1) pa_nil)) (pe_callB call_len_seq (by rfl) T.z_len PySem.boot_len (pa_cons (pe_fld (pe_fld (pv 0) rfl) rfl) pa_nil)) (nomark _))
        (pw_or1 (pt_not (pt_val (pe_callB (cr_all rfl) (by rfl) T.z_all (by decide +kernel) (pa_cons (pe_lc (own := [("one", 5)]) (g := gName 5) (tt := tYes) rfl sc_st.nd (pi_list (pv 1)) (blkOk_by (N := N_st) (sc := defScope s_soonest_told) (by decide +kernel))
          (fun _ _ _ _ _ => pg_name (i := 5) sc_st.nd rfl (.inl rfl)) (fun _ _ _ _ _ => pts_nil) (fun _ _ _ _ _ => pe_chain op_le op_le pe_int (pv 5) (pe_glob (v := .int 1000) (by rfl) cC ⟨_, rfl⟩))) pa_nil)))))))
        (pss_one (ps_ret (pe_lst (pa_cons (pe_glob (v := .int (-1)) (by rfl) cW ⟨_, rfl⟩) pa_nil)))) pss_nil)
      (pss_cons (ps_if (pt_cmpR (op_eqNil hr.units) (pe_call (ok_working T) (hr.mono (by decide)) (by rfl) T.working.g T.working.F.kp T.working.b .nil pass0 (pa_cons (pe_fld (pv 0) rfl) pa_nil)) (pe_lst pa_nil) (nomark _)) (pss_one (ps_ret (pe_lst (pa_cons pe_int pa_nil)))) pss_nil)
      (pss_cons (ps_asg (pe_call (ok_soonest T) hr (by rfl) T.soonest.g T.soonest.F.kp T.soonest.b .nil pass0 (pa_cons (pe_fld (pv 0) rfl) (pa_cons (pv 1) pa_nil))) (pg_tup rfl (pgs_cons (pg_name (i := 2) sc_st.nd rfl (.inl rfl)) (pgs_cons (pg_name (i := 3) sc_st.nd rfl (.inl rfl)) (pgs_cons (pg_name (i := 4) sc_st.nd rfl (.inl rfl)) pgs_nil)))))
      (pss_one (ps_ret (pe_op op_cat (pe_op op_cat (pe_lst (pa_cons (pv 2) pa_nil)) (pv 3)) (pe_call (ok_told_pairs T) (hr.mono (by decide)) (by rfl) T.told_pairs.g T.told_pairs.F.kp T.told_pairs.b .nil pass0 (pa_cons (pv 4) pa_nil))))))), ?_⟩
    have hcf : ∀ {σ : L2.St} {H1 : Hp}, Ex H H1 → σ[0]? = some (some (.ref h)) → Ev (tFld K (tVar 0) "case") σ H1 (.ref c) := fun e1 hσ => ev_fld (ev_var hσ) (e1 _ _ h1) T.cl_House T.na_House_case (hF_case _ _ _ _ _ _)
    have hlen : Ev (tCB (rLenS K) (tCons (tFld K (tFld K (tVar 0) "case") "steps") tNil)) (L2.start N_st [.ref h, .ref t]) H (.int (m.steps.length : Nat)) := by
      have q := ev_len (K := K) (ev_fld (K := K) (hcf (σ := L2.start N_st [.ref h, .ref t]) (Ex.refl H) rfl) (HA.ex _ _ c1) T.cl_Case T.na_Case_steps (cF_steps _ _ _)) (sq_of (HA.ex _ _ c2))
      rw [← hcl] at q
      exact q
    refine q_when (b := !decide (each.length = m.steps.length) || !(each.all fun k => decide (1 ≤ k) && decide (k ≤ 1000))) (et_or (et_test (ev_is (ev_op (ev_lenI (ev_var rfl) ht) hlen (rv_ne rfl)) (congrArg (fun b => V.bl (!b)) (dN _ _)))) fun _ => et_not (et_B (ev_is (ev_all (bs := each.map fun k => decide (1 ≤ k) && decide (k ≤ 1000)) ?_) (by rw [all_map])))) ?_ ?_
    · have q := el_lcF (K := K) (σ := L2.start N_st [.ref h, .ref t]) (Hs := H) (tl := tVar 1) (t := tYes) (te := tChain (rI0 fun i j => .bl (decide (i ≤ j))) (rI0 fun i j => .bl (decide (i ≤ j))) (tC (.int 1)) (tVar 5) (tC (.int 1000))) (j := 5) (vs := [5])
        each (fun n => V.int ((n : Nat) : Int)) (fun _ => true) (fun n => V.bl (decide (1 ≤ n) && decide (n ≤ 1000))) (ev_var rfl) (sq_of ht) (by omega) (fun _ => rfl) (fun _ _ _ _ => et_yes) (fun d Hs2 hd e2 _ => ev_chain ev_c (ev_var rfl) (rv_b (le_nat 1 d)) (fun _ => ev_c) (fun _ => rv_b (le_nat d 1000)))
      rw [filter_all] at q
      rw [List.map_map]
      exact q
    · intro hb H1 e1
      have e : soonestTold m each = [-1] := by
        unfold soonestTold
        rw [if_neg]
        rintro ⟨z1, z2⟩
        rw [z2, decide_eq_true z1] at hb
        cases hb
      refine s_retL (xs := [.int (-1)]) (el_lst (ea_cons ev_c ea_nil) (by decide)) fun p H2 hp e2 h2 => k p H2 (fresh_back e1 hp) (e1.trans e2) ?_
      rw [h2, e]
      rfl
    · intro hb H1 e1
      have hb2 := Bool.or_eq_false_iff.mp hb
      have hl : each.length = m.steps.length := by simpa using hb2.1
      have hall : (each.all fun k => decide (1 ≤ k) && decide (k ≤ 1000)) = true := by simpa using hb2.2
      have e0 : soonestTold m each = (match working m.steps m.so m.wanted with
        | [] => [0]
        | x :: r => (through (endsOf (minBy (ltS each) x r) each) : Int) :: intsN (endsOf (minBy (ltS each) x r) each ++ toldPairs (minBy (ltS each) x r))) := by
        unfold soonestTold
        exact if_pos ⟨hl, hall⟩
      have hcase1 : CaseAt T.Case H1 c m.steps m.so m.wanted := h4.up (HA.ex.trans e1)
      refine q_when (et_test (ev_eqNilW (w_working (hcf e1 rfl) hcase1 hst))) ?_ ?_
      · intro hw H2 e2
        have e : soonestTold m each = [0] := by
          rw [e0]
          cases z : working m.steps m.so m.wanted with
          | nil => rfl
          | cons x r => rw [z] at hw; cases hw
        refine s_retL (xs := [.int 0]) (el_lst (ea_cons ev_c ea_nil) (by decide)) fun p H3 hp e3 h3 => k p H3 (fresh_back (e1.trans e2) hp) ((e1.trans e2).trans e3) ?_
        rw [h3, e]
        rfl
      · intro hw H2 e2
        have e12 := e1.trans e2
        obtain ⟨x, r, hxr⟩ : ∃ x r, working m.steps m.so m.wanted = x :: r := by
          cases z : working m.steps m.so m.wanted with
          | nil => rw [z] at hw; cases hw
          | cons x r => exact ⟨x, r, rfl⟩
        have hso : soonest each (working m.steps m.so m.wanted) = minBy (ltS each) x r := by rw [hxr]; rfl
        have e : soonestTold m each = (through (endsOf (minBy (ltS each) x r) each) : Int) :: intsN (endsOf (minBy (ltS each) x r) each ++ toldPairs (minBy (ltS each) x r)) := by
          rw [e0, hxr]
        have hmin := mem_minBy (ltS each) r x
        rw [← hxr] at hmin
        have hol := working_in hmin
        generalize minBy (ltS each) x r = o at hso e hol
        refine (w_call (σ := L2.start N_st [.ref h, .ref t]) (tr := tCons (tFld K (tVar 0) "case") (tCons (tVar 1) tNil)) (PA := fun vs _ => vs = [V.ref c, V.ref t]) (P := rSoon each o) (wa_ea (Hs := H2) (ea_cons (hcf e12 rfl) (ea_cons (ev_var rfl) ea_nil)) rfl) fun vs Hs3 e3 hv => w_sp fun H4 e4 Q4 q4 => ?_) H2 (Ex.refl H2) _ fun v Hs3 H3 s3 hv => ?_
        · subst hv
          exact ⟨Hs3, c, t, m.steps, m.so, m.wanted, each, rfl, e4, h4.up (HA.ex.trans (e12.trans e3)), e3 _ _ (e12 _ _ ht), hst, hl, by rw [hxr]; exact List.cons_ne_nil _ _, by rw [hso]; exact q4⟩
        · obtain ⟨a, ev, ov, rfl, g1, g2, g3⟩ := hv
          obtain ⟨ea, rfl, hea⟩ := g2
          obtain ⟨ob, rfl, hob⟩ := g3
          refine ⟨a, _, rfl, SqT.of (s3.s _ _ g1), rfl, _, _, rfl, _, _, rfl, _, _, rfl, rfl, ?_⟩
          have hend := endsOf_len o each
          have htp : (nV (toldPairs o)).length ≤ 50 := by
            rw [nV_len]
            have h1 := pairsOf_le o (by omega)
            have h2 := flatMap_le (fun p : Nat × Nat => [p.2, p.1]) 2 (fun _ => Nat.le_refl _) (pairsOf o)
            show (toldPairs o).length ≤ 50
            unfold toldPairs
            omega
          dsimp only
          refine s_retL (xs := iV (soonestTold m each)) ?_ fun p H5 hp e5 h5 => k p H5 (fresh_back (e12.trans s3.h) hp) ((e12.trans s3.h).trans e5) h5
          have e9 : iV (soonestTold m each) = ([V.int (through (endsOf o each) : Nat)] ++ nV (endsOf o each)) ++ nV (toldPairs o) := by
            rw [e, iV_cons, iV_ints]
            simp
          rw [e9]
          have hne : (nV (endsOf o each)).length ≤ 5 := by rw [nV_len, hend]; omega
          refine el_cat (el_catVr (el_lst (ea_cons (ev_var rfl) ea_nil) (by show 1 ≤ 100000; decide)) (ev_var rfl) (s3.s _ _ hea) (by show 1 + _ ≤ 100000; omega)) (el_call (vs := [.ref ob]) (ea_cons (ev_var rfl) ea_nil) fun H5 e5 Q5 q5 E5 => ⟨ob, o, rfl, e5 _ _ (s3.s _ _ hob), by omega, q5⟩) ?_
          rw [List.length_append]
          show 1 + _ + _ ≤ 100000
          omega
/-! ### check -/
theorem every2_tail {α : Type} (b : α) : ∀ r : List α, every2 (b :: r) = b :: every2 (r.drop 1)
  | [] => rfl
  | _ :: _ => rfl
theorem every2_zip : ∀ l : List Nat, l.length % 2 = 0 → (every2 l).length = (twos l).length ∧ (every2 (l.drop 1)).length = (twos l).length ∧ ∀ (i : Nat) (p : Nat × Nat), (twos l)[i]? = some p → (every2 l)[i]? = some p.1 ∧ (every2 (l.drop 1))[i]? = some p.2
  | [], _ => ⟨rfl, rfl, fun i p h => by simp [twos] at h⟩
  | [a], h => by simp at h
  | a :: b :: r, h => by
    obtain ⟨i1, i2, i3⟩ := every2_zip r (by simp only [List.length_cons] at h; omega)
    have e1 : every2 (a :: b :: r) = a :: every2 r := rfl
    have e2 : every2 ((a :: b :: r).drop 1) = b :: every2 (r.drop 1) := every2_tail b r
    have e3 : twos (a :: b :: r) = (a, b) :: twos r := rfl
    rw [e1, e2, e3]
    refine ⟨by rw [List.length_cons, List.length_cons, i1], by rw [List.length_cons, List.length_cons, i2], fun i p hp => ?_⟩
    cases i with
    | zero =>
      have : (a, b) = p := Option.some.inj hp
      subst this
      exact ⟨rfl, rfl⟩
    | succ i => exact i3 i p hp
theorem twos_mem : ∀ {l : List Nat} {p : Nat × Nat}, p ∈ twos l → p.1 ∈ l ∧ p.2 ∈ l
  | [], p, h => by cases h
  | [a], p, h => by cases h
  | a :: b :: r, p, h => by
    rcases List.mem_cons.mp h with e | h
    · subst e
      exact ⟨List.mem_cons_self, List.mem_cons_of_mem _ List.mem_cons_self⟩
    · have := twos_mem h
      exact ⟨List.mem_cons_of_mem _ (List.mem_cons_of_mem _ this.1), List.mem_cons_of_mem _ (List.mem_cons_of_mem _ this.2)⟩
theorem twos_le : ∀ l : List Nat, (twos l).length ≤ l.length
  | [] => Nat.le_refl _
  | [_] => Nat.zero_le _
  | a :: b :: r => by
    have := twos_le r
    show (twos r).length + 1 ≤ r.length + 1 + 1
    omega
theorem every2_map (f : Nat → V) : ∀ l : List Nat, every2 (l.map f) = (every2 l).map f
  | [] => rfl
  | [_] => rfl
  | a :: b :: r => by
    show f a :: every2 (r.map f) = f a :: (every2 r).map f
    rw [every2_map f r]
theorem po_one {X : Cx} {i : Int} {j : Nat} {pos : Pos} : PO X (some (.Constant (.int i) j pos)) (fun _ H Q => Q (some i) H) := ⟨fun pins s σ H Q I h => (po_some (pe_int (X := X))).run pins s σ H Q I ⟨i, rfl, h⟩⟩
theorem el_step {K : PySem.W.Frag} {σ : L2.St} {H : Hp} {te : TE} {a : Addr} {l : List Nat} {lo : Option Int} {ys : List V} (h : Ev te σ H (.ref a)) (ha : H a = some (.lst (nV l))) (hp : pickV (nV l) lo (some 2) = ys) : EvL (tStep K te lo) σ H ys := fun H1 e Q q =>
  h H1 e _ fun H2 e2 => ⟨a, nV l, rfl, sq_of (e2 _ _ (e _ _ ha)), fun p hp' => by
    rw [hp]
    exact q p _ (fresh_back e2 hp') (e2.trans (Ex.new hp')) upd_same⟩
theorem orderOf_len (n : Nat) (ps : List (Nat × Nat)) : (orderOf n ps).length = n := by
  unfold orderOf
  rw [fold_len _ (fun f b => by rw [List.length_set]), List.length_replicate]
theorem wab_len (o : List Nat) : (wab o).length = o.length := by
  unfold wab
  rw [fold_len _ (fun f b => wabTurn_len _ f)]
theorem sc_check : FnScope ["house", "pairs", "many", "step", "order", "later", "whole", "some"] ["house", "pairs"] (defScope s_check) := ⟨rfl, rfl, rfl, by decide +kernel, rfl, by decide +kernel, by decide +kernel⟩
abbrev N_check : List Str := ["house", "pairs", "many", "step", "order", "later", "whole", "some"]
theorem ok_check (T : All K mg) : FnOk P w K mg base CX0 6 T.check.f T.check.fd ["house", "pairs"] (spCheck T.House T.Case) := by
  refine T.check.F.ok sc_check (fun vs H Q E h => ?_) (fun cdv A outer s H vs Q E hr h => ?_)
  · obtain ⟨Hs, h, la, t, m, ps, rfl, _⟩ := h
    rfl
  · obtain ⟨Hs, h, la, t, m, ps, rfl, HA, G, ht, htl, k⟩ := h
    obtain ⟨dx, c, oa, us, h1, h2, h3, h4, h5⟩ := HA.ob
    obtain ⟨dc, ls, vs, c1, c2, c3⟩ := h4.ex
    have hcl := c3.length
    have hst := G.steps
    obtain ⟨tW, cW⟩ := T.c_WRONG
    refine ⟨_, pss_cons (ps_set (i := 2) sc_check.nd rfl (.inr rfl) (pe_callB call_len_seq (by rfl) T.z_len PySem.boot_len (pa_cons (pe_fld (pe_fld (pv 0) rfl) rfl) pa_nil)))
      (pss_cons (ps_if (PW.pt (pw_or (pt_cmpR op_eq (pe_op op_mod (pe_callB call_len_seq (by rfl) T.z_len PySem.boot_len (pa_cons (pv 1) pa_nil)) pe_int) pe_int (nomark _))
        (pw_or1 (pt_not (pt_val (pe_callB (cr_all rfl) (by rfl) T.z_all (by decide +kernel) (pa_cons (pe_lc (own := [("step", 3)]) (g := gName 3) (tt := tYes) rfl sc_check.nd (pi_list (pv 1)) (blkOk_by (N := N_check) (sc := defScope s_check) (by decide +kernel))
          (fun _ _ _ _ _ => pg_name (i := 3) sc_check.nd rfl (.inl rfl)) (fun _ _ _ _ _ => pts_nil) (fun _ _ _ _ _ => pe_cmpR op_lt (pv 3) (pv 2) (nomark _))) pa_nil)))))))
        (pss_one (ps_ret (pe_lst (pa_cons (pe_glob (v := .int (-1)) (by rfl) cW ⟨_, rfl⟩) pa_nil)))) pss_nil)
      (pss_cons (ps_setLc (i := 4) (own := [("step", 3)]) (g := gName 3) (tt := tYes) rfl sc_check.nd rfl rfl (sw_true rfl rfl rfl (by decide +kernel)) (pi_range1 (by rfl) T.z_range (pa_cons (pv 2) pa_nil)) (blkOk_by (N := N_check) (sc := defScope s_check) (by decide +kernel))
          (fun _ _ _ _ _ => pg_name (i := 3) sc_check.nd rfl (.inl rfl)) (fun _ _ _ _ _ => pts_nil) (fun _ _ _ _ _ => pe_int))
      (pss_cons (ps_for PassesOwn.never rfl (pi_zip (by rfl) T.z_zip (pa_cons (pe_step (pv 1) (lo := none) po_none pick_even_le) (pa_cons (pe_step (pv 1) (lo := some 1) po_one pick_odd_le) pa_nil))) (pg_tup rfl (pgs_cons (pg_name (i := 3) sc_check.nd rfl (.inl rfl)) (pgs_cons (pg_name (i := 5) sc_check.nd rfl (.inl rfl)) pgs_nil)))
          (pss_one (ps_asg (pe_op op_or (pe_ix ix_list (pv 4) (pv 5) (fun _ _ => rfl)) (pe_op op_shl pe_int (pv 3))) (pg_sub (pv 4) (pv 5) set_list))))
      (pss_cons (ps_set (i := 6) sc_check.nd rfl (.inl rfl) (pe_call (ok_wab T) (hr.mono (by decide)) (by rfl) T.with_all_before.g T.with_all_before.F.kp T.with_all_before.b .nil pass0 (pa_cons (pv 4) pa_nil)))
      (pss_cons (ps_if (pt_val (pe_callB (cr_any rfl) (by rfl) T.z_any (by decide +kernel) (pa_cons (pe_lc (own := [("step", 3), ("some", 7)]) (g := gTup K 2 (gCons (gName 3) (gCons (gName 7) gNil))) (tt := tYes) rfl sc_check.nd (pi_enum (by rfl) T.z_enumerate (pa_cons (pv 6) pa_nil)) (blkOk_by (N := N_check) (sc := defScope s_check) (by decide +kernel))
          (fun _ _ _ _ _ => pg_tup rfl (pgs_cons (pg_name (i := 3) sc_check.nd rfl (.inl rfl)) (pgs_cons (pg_name (i := 7) sc_check.nd rfl (.inl rfl)) pgs_nil))) (fun _ _ _ _ _ => pts_nil) (fun _ _ _ _ _ => pe_cmpR op_eq (pe_op op_and (pe_op op_shr (pv 7) (pv 3)) pe_int) pe_int (nomark _))) pa_nil)))
        (pss_one (ps_ret (pe_lst (pa_cons (pe_glob (v := .int (-1)) (by rfl) cW ⟨_, rfl⟩) pa_nil)))) pss_nil)
      (pss_one (ps_ret (pe_call (ok_ft T) hr (by rfl) T.failing_told.g T.failing_told.F.kp T.failing_told.b .nil pass0 (pa_cons (pe_fld (pv 0) rfl) (pa_cons (pv 6) pa_nil)))))))))), ?_⟩
    have hcf : ∀ {σ : L2.St} {H1 : Hp}, Ex H H1 → σ[0]? = some (some (.ref h)) → Ev (tFld K (tVar 0) "case") σ H1 (.ref c) := fun e1 hσ => ev_fld (ev_var hσ) (e1 _ _ h1) T.cl_House T.na_House_case (hF_case _ _ _ _ _ _)
    refine q_asg (v := .int (m.steps.length : Nat)) ?_ fun H1 e1 => ?_
    · have q := ev_len (K := K) (ev_fld (K := K) (hcf (σ := L2.start N_check [.ref h, .ref t]) (Ex.refl H) rfl) (HA.ex _ _ c1) T.cl_Case T.na_Case_steps (cF_steps _ _ _)) (sq_of (HA.ex _ _ c2))
      rw [← hcl] at q
      exact q
    refine q_when (b := decide (ps.length % 2 = 1) || !(ps.all fun k => decide (k < m.steps.length))) (et_or (et_test (ev_is (ev_op (ev_op (ev_lenI (ev_var rfl) (e1 _ _ ht)) ev_c (rv_I (by decide))) ev_c (rv_eq rfl)) ?_)) fun _ => et_not (et_B (ev_is (ev_all (bs := ps.map fun k => decide (k < m.steps.length)) ?_) (by rw [all_map])))) ?_ ?_
    · have : ((ps.length : Nat) : Int) % 2 = ((ps.length % 2 : Nat) : Int) := by omega
      rw [this]
      exact congrArg V.bl (dN _ 1)
    · have q := el_lcF (K := K) (σ := [some (.ref h), some (.ref t), some (.int (m.steps.length : Nat)), none, none, none, none, none]) (Hs := H1) (tl := tVar 1) (t := tYes) (te := tOp (rI0 fun i j => .bl (decide (i < j))) (tVar 3) (tVar 2)) (j := 3) (vs := [3])
        ps (fun n => V.int ((n : Nat) : Int)) (fun _ => true) (fun n => V.bl (decide (n < m.steps.length))) (ev_var rfl) (sq_of (e1 _ _ ht)) (by omega) (fun _ => rfl) (fun _ _ _ _ => et_yes) (fun d Hs2 hd e2 _ => ev_op (ev_var rfl) (ev_var rfl) (rv_b (lt_nat _ _)))
      rw [filter_all] at q
      rw [List.map_map]
      exact q
    · intro hb H2 e2
      have e : check m ps = [-1] := by
        unfold check
        rw [if_pos]
        rcases Bool.or_eq_true_iff.mp hb with z | z
        · exact .inl (by simpa using z)
        · exact .inr (by simpa using z)
      refine s_retL (xs := [.int (-1)]) (el_lst (ea_cons ev_c ea_nil) (by decide)) fun p H3 hp e3 h3 => k p H3 (fresh_back (e1.trans e2) hp) ((e1.trans e2).trans e3) ?_
      rw [h3, e]
      rfl
    intro hb H2 e2
    have hb2 := Bool.or_eq_false_iff.mp hb
    have hpar : ps.length % 2 = 0 := by
      have : ¬ ps.length % 2 = 1 := by simpa using hb2.1
      omega
    have hall : (ps.all fun k => decide (k < m.steps.length)) = true := by simpa using hb2.2
    have hin : ∀ k ∈ ps, k < m.steps.length := fun k hk => by simpa using List.all_eq_true.mp hall k hk
    have e12 := e1.trans e2
    have hck : check m ps = if ((List.range m.steps.length).any fun j => ((wab (orderOf m.steps.length (twos ps))).getD j 0).testBit j) = true then [-1] else ftM m.steps m.so m.wanted (wab (orderOf m.steps.length (twos ps))) := by
      unfold check
      rw [if_neg]
      · rfl
      · rintro (z | z)
        · omega
        · rw [hall] at z; cases z
    obtain ⟨z1, z2, z3⟩ := every2_zip ps hpar
    have htw := twos_le ps
    -- order = [0 for step in range(many)]
    refine q_asgL (xs := nV (List.replicate m.steps.length 0)) ?_ fun l H3 hl e3 h3l => ?_
    · have q := el_lcRF (σ := [some (.ref h), some (.ref t), some (.int (m.steps.length : Nat)), none, none, none, none, none]) (Hs := H2) (n := m.steps.length) (t := tYes) (te := tC (.int 0)) (j := 3) (vs := [3]) (fun _ => true) (fun _ => V.int ((0 : Nat) : Int)) (ea_cons (ev_var (i := 2) rfl) ea_nil) (by omega) (fun _ => rfl) (fun _ _ _ _ => et_yes) (fun _ _ _ _ _ => ev_c)
      rw [filter_all] at q
      have e9 : (List.range m.steps.length).map (fun _ => V.int ((0 : Nat) : Int)) = nV (List.replicate m.steps.length 0) := by
        rw [List.map_const', List.length_range, nV, List.map_replicate]
      rw [e9] at q
      exact q
    have hlH : H l = none := fresh_back e12 hl
    have htl' : ∀ {H4 : Hp}, Ex H H4 → H4 t = some (.lst (nV ps)) := fun e4 => e4 _ _ ht
    -- the pairs
    refine s_forZ (D := { nx := _, rt := _ }) (xs := nV (every2 ps)) (ys := nV (every2 (ps.drop 1))) (by rw [nV_len, nV_len, z1, z2]) (el_step (ev_var rfl) (htl' (e12.trans e3)) (by rw [pick_even, every2_map])) (el_step (ev_var rfl) (htl' (e12.trans e3)) (by rw [pick_odd_all, ← List.map_drop, every2_map]))
      (fun a b i σ H' => Ex H H' ∧ H' a = some (.lst (nV (every2 ps))) ∧ H' b = some (.lst (nV (every2 (ps.drop 1)))) ∧ a ≠ l ∧ b ≠ l ∧ ∃ (v3 v5 : Option V), σ = [some (.ref h), some (.ref t), some (.int (m.steps.length : Nat)), v3, some (.ref l), v5, none, none] ∧
        H' l = some (.lst (nV (((twos ps).take i).foldl (fun o p => o.set p.2 (o.getD p.2 0 ||| 2 ^ p.1)) (List.replicate m.steps.length 0)))))
      (fun a b H4 ha hb e4 ha4 hb4 => ⟨(e12.trans e3).trans e4, ha4, hb4, (ne_of_none h3l ha).symm, (ne_of_none h3l hb).symm, none, none, rfl, e4 _ _ h3l⟩) (fun a b i σ' H' p => ⟨p.2.1, p.2.2.1⟩) ?_ ?_
    · rintro a b i x y σ' H' H4 hx hy ⟨e0, ha, hb, hal, hbl, v3, v5, rfl, hf⟩ e4
      obtain ⟨d1, hd1, rfl⟩ := nV_get hx
      obtain ⟨d2, hd2, rfl⟩ := nV_get hy
      have hil : i < (twos ps).length := by
        have := (List.getElem?_eq_some_iff.mp hd1).1
        omega
      have hp : (twos ps)[i]? = some (twos ps)[i] := List.getElem?_eq_getElem hil
      obtain ⟨g1, g2⟩ := z3 i _ hp
      rw [hd1] at g1
      rw [hd2] at g2
      have q1 : (twos ps)[i] = (d1, d2) := Prod.ext (Option.some.inj g1).symm (Option.some.inj g2).symm
      rw [q1] at hp
      have hm := twos_mem (List.mem_of_getElem? hp)
      have l1 := hin _ hm.1
      have l2 := hin _ hm.2
      generalize hg : ((twos ps).take i).foldl (fun o p => o.set p.2 (o.getD p.2 0 ||| 2 ^ p.1)) (List.replicate m.steps.length 0) = f at hf
      have hfl : f.length = m.steps.length := by
        rw [← hg, fold_len _ (fun f b => by rw [List.length_set]), List.length_replicate]
      have hf4 := e4 _ _ hf
      refine s_setL (j := d2) (v := .int ((f.getD d2 0 ||| 2 ^ d1 : Nat) : Int)) hf4 (ev_is (ev_op (ev_op (ev_var rfl) (ev_var rfl) (rv_ixL (sq_of hf4) (atI_nat (nV_at (by omega))))) (ev_pow (ev_var rfl) (by omega)) rv_I0) (by rw [bit_or])) (ev_var rfl) (ev_var rfl) (by rw [nV_len]; omega) fun H5 e5 => ?_
      refine ⟨((e0.trans e4).trans e5).mut hlH, ?_, ?_, hal, hbl, _, _, rfl, ?_⟩
      · rw [upd_ne hal]
        exact e5 _ _ (e4 _ _ ha)
      · rw [upd_ne hbl]
        exact e5 _ _ (e4 _ _ hb)
      · rw [upd_same, set_nV, take_more hp, List.foldl_append, hg]
        rfl
    · rintro a b σ' H' ⟨e0, ha, hb, hal, hbl, v3, v5, rfl, hf⟩
      have e9 : ((twos ps).take (nV (every2 ps)).length).foldl (fun o p => o.set p.2 (o.getD p.2 0 ||| 2 ^ p.1)) (List.replicate m.steps.length 0) = orderOf m.steps.length (twos ps) := by
        rw [nV_len, z1, List.take_length]
        rfl
      rw [e9] at hf
      have hol := orderOf_len m.steps.length (twos ps)
      generalize orderOf m.steps.length (twos ps) = o at hf hol hck
      have hwl := wab_len o
      show tSeq _ _ _ _ _
      -- whole = with_all_before(order)
      refine q_asgL (xs := nV (wab o)) (el_call (vs := [.ref l]) (ea_cons (ev_var rfl) ea_nil) fun H4 e4 Q4 q4 E4 => ⟨l, o, rfl, e4 _ _ hf, by omega, q4⟩) fun wl H4 hwl4 e4 h4w => ?_
      have e04 := e0.trans e4
      refine q_when (b := (List.range m.steps.length).any fun j => ((wab o).getD j 0).testBit j) (et_B (ev_is (ev_any (bs := (List.range m.steps.length).map fun j => ((wab o).getD j 0).testBit j) ?_) (by rw [any_map]))) ?_ ?_
      · have q := el_lcE (K := K) (σ := [some (.ref h), some (.ref t), some (.int (m.steps.length : Nat)), v3, some (.ref l), v5, some (.ref wl), none]) (Hs := H4) (tl := tVar 6) (te := tOp rEq (tOp (rI0 fun i j => V.int (Builtin.bitAnd i j)) (tOp (rI (fun _ j => 0 ≤ j) fun i j => V.int (i / 2 ^ j.toNat)) (tVar 7) (tVar 3)) (tC (V.int 1))) (tC (V.int 1))) (j1 := 3) (j2 := 7) (vs := [3, 7])
          (wab o) (fun i d => V.bl (d.testBit i)) (ev_var rfl) h4w (by omega) (fun _ _ => rfl) (fun i d Hs2 hd e2 => ?_)
        · rw [hwl, hol] at q
          rw [List.map_map]
          exact q
        · refine ev_is (ev_op (ev_op (ev_op (ev_var rfl) (ev_var rfl) (rv_I (by omega))) ev_c rv_I0) ev_c (rv_eq rfl)) ?_
          rw [bit_at]
      · intro hb3 H5 e5
        rw [if_pos hb3] at hck
        refine s_retL (xs := [.int (-1)]) (el_lst (ea_cons ev_c ea_nil) (by decide)) fun p H6 hp e6 h6 => k p H6 (fresh_back (e04.trans e5) hp) ((e04.trans e5).trans e6) ?_
        rw [h6, hck]
        rfl
      · intro hb3 H5 e5
        rw [if_neg (by rw [hb3]; decide)] at hck
        rw [hck] at k
        have e05 := e04.trans e5
        refine s_retL (el_call (vs := [.ref c, .ref wl]) (ea_cons (hcf e05 rfl) (ea_cons (ev_var rfl) ea_nil)) fun H6 e6 Q6 q6 E6 => ⟨c, wl, m.steps, m.so, m.wanted, wab o, rfl, h4.up (HA.ex.trans (e05.trans e6)), e6 _ _ (e5 _ _ h4w), hst, by omega, q6⟩) fun p H6 hp e6 h6 => k p H6 (fresh_back e05 hp) (e05.trans e6) h6
end
end Lp
end
section
set_option Elab.async false
set_option linter.all false
set_option maxRecDepth 100000
set_option maxHeartbeats 2000000
set_option pp.maxSteps 3000
namespace Lp
open PySem PySem.Spec PyProof.Rows L2 Evl
theorem s_retCall {σ : L2.St} {H : Hp} {D : Ends} {sp : Sp} {dvs vs : List V} {E : XK} {ta : TA} (h : EvA ta σ H vs) (k : ∀ H1, Ex H H1 → sp (vs ++ dvs) H1 D.rt E) : tRet (tCall sp dvs E ta) D σ H := h H (Ex.refl H) _ k
def spAnswer (CH CC : Addr) : Sp := fun vs H Q _ => ∃ (Hs : Hp) (h la t r : Addr) (m : HouseM) (p : Nat) (told row : List Nat), vs = [.ref h, .int (p : Nat), .ref t, .ref r] ∧ HouseAt CH CC Hs H h la m ∧ Good m ∧ H t = some (.lst (nV told)) ∧ H r = some (.lst (nV row)) ∧ r ≠ la ∧ row.length ≤ 1000 ∧
  1 ≤ p ∧ p ≤ 7 ∧ (p = 5 → told.length = 2) ∧
  ∀ (q : Addr) (H' Hs' : Hp), H q = none → H' q = some (.lst (iV (answer m p told row).2)) → HouseAt CH CC Hs' H' h la (answer m p told row).1 → (∀ b o, H b = some o → Hs b = none → Hs' b = none) → (∀ b o, H b = some o → b ≠ h → b ≠ la → H' b = some o) → Q (.ref q) H'
section
variable {P : Program} {w : World} {K : PySem.W.Frag} {mg : Str → Option Value} {base : Heap}
theorem sc_answer : FnScope ["house", "call", "told", "row"] ["house", "call", "told", "row"] (defScope s_answer) := ⟨rfl, rfl, rfl, by decide +kernel, rfl, by decide +kernel, by decide +kernel⟩
theorem ok_answer (T : All K mg) : FnOk P w K mg base CX0 8 T.answer.f T.answer.fd ["house", "call", "told", "row"] (spAnswer T.House T.Case) := by
  refine T.answer.F.ok sc_answer (fun vs H Q E h => ?_) (fun cdv A outer s H vs Q E hr h => ?_)
  · obtain ⟨Hs, h, la, t, r, m, p, told, row, rfl, _⟩ := h
    rfl
  · obtain ⟨Hs, h, la, t, r, m, p, told, row, rfl, HA, G, ht, hrw, hrla, hrl, hp1, hp7, hp5, k⟩ := h
    refine ⟨_, pss_cons (ps_if (pt_cmpR op_eq (pv 1) pe_int (nomark _)) (pss_one (ps_ret (pe_call (ok_act T) (hr.mono (by decide)) (by rfl) T.act.g T.act.F.kp T.act.b .nil pass0 (pa_cons (pv 0) (pa_cons (pv 3) pa_nil))))) pss_nil)
      (pss_cons (ps_if (pt_cmpR op_eq (pv 1) pe_int (nomark _)) (pss_one (ps_ret (pe_call (ok_plan T) hr (by rfl) T.plan.g T.plan.F.kp T.plan.b .nil pass0 (pa_cons (pv 0) (pa_cons (pv 3) pa_nil))))) pss_nil)
      (pss_cons (ps_if (pt_cmpR op_eq (pv 1) pe_int (nomark _)) (pss_one (ps_ret (pe_call (ok_loosen T) (hr.mono (by decide)) (by rfl) T.loosen.g T.loosen.F.kp T.loosen.b .nil pass0 (pa_cons (pv 0) pa_nil)))) pss_nil)
      (pss_cons (ps_if (pt_cmpR op_eq (pv 1) pe_int (nomark _)) (pss_one (ps_ret (pe_call (ok_rows T) (hr.mono (by decide)) (by rfl) T.rows.g T.rows.F.kp T.rows.b .nil pass0 (pa_cons (pv 0) pa_nil)))) pss_nil)
      (pss_cons (ps_if (pt_cmpR op_eq (pv 1) pe_int (nomark _)) (pss_one (ps_ret (pe_call (ok_why T) (hr.mono (by decide)) (by rfl) T.why.g T.why.F.kp T.why.b .nil pass0 (pa_cons (pv 0) (pa_cons (pe_ix ix_list (pv 2) pe_int (fun _ _ => rfl)) (pa_cons (pe_ix ix_list (pv 2) pe_int (fun _ _ => rfl)) pa_nil)))))) pss_nil)
      (pss_cons (ps_if (pt_cmpR op_eq (pv 1) pe_int (nomark _)) (pss_one (ps_ret (pe_call (ok_soonest_told T) hr (by rfl) T.soonest_told.g T.soonest_told.F.kp T.soonest_told.b .nil pass0 (pa_cons (pv 0) (pa_cons (pv 3) pa_nil))))) pss_nil)
      (pss_one (ps_ret (pe_call (ok_check T) (hr.mono (by decide)) (by rfl) T.check.g T.check.F.kp T.check.b .nil pass0 (pa_cons (pv 0) (pa_cons (pv 3) pa_nil)))))))))), ?_⟩
    have hv : ∀ {H1 : Hp} (c : Nat), EvT (tTest (tOp rEq (tVar 1) (tC (.int (c : Int))))) (L2.start ["house", "call", "told", "row"] [.ref h, .int (p : Nat), .ref t, .ref r]) H1 (decide (p = c)) := fun c => et_test (ev_is (ev_op (ev_var rfl) ev_c (rv_eq rfl)) (congrArg V.bl (dN p c)))
    have two : ∀ {H1 : Hp}, Ex H H1 → EvA (tCons (tVar 0) (tCons (tVar 3) tNil)) (L2.start ["house", "call", "told", "row"] [.ref h, .int (p : Nat), .ref t, .ref r]) H1 [.ref h, .ref r] := fun _ => ea_cons (ev_var rfl) (ea_cons (ev_var rfl) ea_nil)
    -- what a call that only reads gives
    have rd : ∀ {f : HouseM → List Int}, answer m p told row = (m, f m) → ∀ {H1 : Hp}, Ex H H1 → RetL (iV (f m)) H1 Q := fun {f} e {H1} e1 q H2 hq e2 h2 => by
      refine k q H2 Hs (fresh_back e1 hq) ?_ ?_ (fun _ _ _ n => n) fun b o eb _ _ => (e1.trans e2) b o eb
      · rw [h2, e]
      · rw [e]
        exact HA.ext (e1.trans e2)
    refine q_when (hv 1) ?_ ?_
    · intro hb H1 e1
      have e : p = 1 := by simpa using hb
      subst e
      refine s_retCall (two e1) fun H2 e2 => ?_
      have e12 := e1.trans e2
      exact ⟨Hs, h, la, r, m, row, rfl, HA.ext e12, G, e12 _ _ hrw, hrl, hrla, fun q H' Hs' hq h' HA' hj kp => k q H' Hs' (fresh_back e12 hq) h' HA' (fun b o eb n => hj b o (e12 b o eb) n) fun b o eb b1 b2 => kp b o (e12 b o eb) b1 b2⟩
    intro hb1 H1 e1
    refine q_when (hv 2) ?_ ?_
    · intro hb H2 e2
      have e : p = 2 := by simpa using hb
      subst e
      have e12 := e1.trans e2
      refine s_retCall (two e12) fun H3 e3 => ?_
      have e13 := e12.trans e3
      exact ⟨Hs, h, la, r, m, row, rfl, HA.ext e13, G, e13 _ _ hrw, hrl, fun q H' Hs' hq h' HA' hj kp => k q H' Hs' (fresh_back e13 hq) h' HA' (fun b o eb n => hj b o (e13 b o eb) n) fun b o eb b1 b2 => kp b o (e13 b o eb) b1 b2⟩
    intro hb2 H2 e2
    have e12 := e1.trans e2
    refine q_when (hv 3) ?_ ?_
    · intro hb H3 e3
      have e : p = 3 := by simpa using hb
      subst e
      have e13 := e12.trans e3
      exact s_retL (el_call (vs := [.ref h]) (ea_cons (ev_var rfl) ea_nil) fun H4 e4 Q4 q4 E4 => ⟨Hs, h, la, m, rfl, HA.ext (e13.trans e4), G, q4⟩) (rd (f := loosen) rfl e13)
    intro hb3 H3 e3
    have e13 := e12.trans e3
    refine q_when (hv 4) ?_ ?_
    · intro hb H4 e4
      have e : p = 4 := by simpa using hb
      subst e
      have e14 := e13.trans e4
      exact s_retL (el_call (vs := [.ref h]) (ea_cons (ev_var rfl) ea_nil) fun H5 e5 Q5 q5 E5 => ⟨Hs, h, la, m, rfl, HA.ext (e14.trans e5), G, q5⟩) (rd (f := rows) rfl e14)
    intro hb4 H4 e4
    have e14 := e13.trans e4
    refine q_when (hv 5) ?_ ?_
    · intro hb H5 e5
      have e : p = 5 := by simpa using hb
      subst e
      have e15 := e14.trans e5
      have h2l := hp5 rfl
      exact s_retL (el_call (vs := [.ref h, .int (told.getD 0 0 : Nat), .int (told.getD 1 0 : Nat)]) (ea_cons (ev_var rfl) (ea_cons (ev_op (ev_var rfl) ev_c (rv_ixL (sq_of (e15 _ _ ht)) (atI_nat (j := 0) (nV_at (by omega))))) (ea_cons (ev_op (ev_var rfl) ev_c (rv_ixL (sq_of (e15 _ _ ht)) (atI_nat (j := 1) (nV_at (by omega))))) ea_nil)))
        fun H6 e6 Q6 q6 E6 => ⟨Hs, h, la, m, told.getD 0 0, told.getD 1 0, rfl, HA.ext (e15.trans e6), G, q6⟩) (rd (f := fun m => why m (told.getD 0 0) (told.getD 1 0)) rfl e15)
    intro hb5 H5 e5
    have e15 := e14.trans e5
    refine q_when (hv 6) ?_ ?_
    · intro hb H6 e6
      have e : p = 6 := by simpa using hb
      subst e
      have e16 := e15.trans e6
      exact s_retL (el_call (two e16) fun H7 e7 Q7 q7 E7 => ⟨Hs, h, la, r, m, row, rfl, HA.ext (e16.trans e7), G, e7 _ _ (e16 _ _ hrw), hrl, q7⟩) (rd (f := fun m => soonestTold m row) rfl e16)
    intro hb6 H6 e6
    have e16 := e15.trans e6
    simp only [decide_eq_false_iff_not] at hb1 hb2 hb3 hb4 hb5 hb6
    have e : p = 7 := by omega
    subst e
    exact s_retL (el_call (two e16) fun H7 e7 Q7 q7 E7 => ⟨Hs, h, la, r, m, row, rfl, HA.ext (e16.trans e7), G, e7 _ _ (e16 _ _ hrw), hrl, q7⟩) (rd (f := fun m => check m row) rfl e16)
end
end Lp
end
section
set_option Elab.async false
set_option linter.all false
set_option maxRecDepth 100000
set_option maxHeartbeats 4000000
set_option pp.maxSteps 3000
namespace Lp
open PySem PySem.Spec PyProof.Rows L2 Evl
/-! ### the calls in one list -/
/-- a list that is frozen, or written -/
def FrzL (K : PySem.W.Frag) (H : Hp) (a : Addr) (xs : List V) : Prop :=
  (∃ o, H a = some (.frz o (.lst xs))) ∨ ∃ (o : Obj) (its : Array Value) (n : Nat), K.lookup a = some o ∧ o.cls = .type "list" ∧ o.dict = none ∧ o.data = .seq its n ∧ its.size ≤ sizeLine ∧ Vals xs its.toList
theorem FrzL.sq {K : PySem.W.Frag} {H : Hp} {a : Addr} {xs : List V} (h : FrzL K H a xs) : SqL K H a xs := by
  rcases h with ⟨o, h⟩ | h
  · exact .inl (.inr ⟨o, h⟩)
  · exact .inr h
theorem FrzL.up {K : PySem.W.Frag} {H H' : Hp} {a : Addr} {xs : List V} (h : FrzL K H a xs) (e : ∀ b o u, H b = some (.frz o u) → H' b = some (.frz o u)) : FrzL K H' a xs := by
  rcases h with ⟨o, h⟩ | h
  · exact .inl ⟨o, e _ _ _ h⟩
  · exact .inr h
theorem FrzL.of {K : PySem.W.Frag} {H : Hp} {a : Addr} {xs : List V} (h : SqL K H a xs) (O : OnlyF H) : FrzL K H a xs := by
  rcases h with (h | ⟨o, h⟩) | h
  · rcases O a with z | ⟨o, u, z⟩
    · rw [z] at h; cases h
    · rw [z] at h; cases h
  · exact .inl ⟨o, h⟩
  · exact .inr h
/-! good houses stay good -/
theorem Good.new : Good (HouseM.new 1 0 0) := ⟨by decide, by decide, by decide, by decide, rfl⟩
theorem Good.begun {f s w : Nat} {m : HouseM} (h : begun f s w = some m) : Good m := by
  unfold Lp.begun at h
  by_cases c : 1 ≤ f ∧ f ≤ 8 ∧ s < 2 ^ f ∧ w < 2 ^ f
  · rw [if_pos c] at h
    cases h
    exact ⟨c.1, c.2.1, by show 0 ≤ 12; decide, by show 0 ≤ 5; decide, rfl⟩
  · rw [if_neg c] at h
    cases h
theorem Good.act {m : HouseM} (G : Good m) (l : List Nat) : Good (act m l).1 := by
  unfold Lp.act
  by_cases c : m.acts.length = 12
  · rw [if_pos c]; exact G
  · rw [if_neg c]
    by_cases c2 : isAct m.facts l = true
    · rw [if_pos c2]
      have := G.acts
      exact ⟨G.f1, G.f8, by show (m.acts ++ [actOf l]).length ≤ 12; simp; omega, G.steps, G.order⟩
    · rw [if_neg c2]; exact G
theorem Good.plan {m : HouseM} (G : Good m) (l : List Nat) : Good (plan m l).1 := by
  unfold Lp.plan
  by_cases c : 5 < l.length
  · rw [if_pos c]; exact G
  · rw [if_neg c]
    by_cases c2 : (l.all fun k => decide (k < m.acts.length)) = true
    · rw [if_pos c2]
      by_cases c3 : fails (stepsOf m l) m.so m.wanted (List.range l.length) = true
      · rw [if_pos c3]; exact G
      · rw [if_neg c3]
        have hl : (stepsOf m l).length = l.length := List.length_map ..
        have h5 : (stepsOf m l).length ≤ 5 := by omega
        refine ⟨G.f1, G.f8, G.acts, h5, ?_⟩
        show (loosened (working (stepsOf m l) m.so m.wanted)).length = (stepsOf m l).length
        have hne := working_ne (so := m.so) (w := m.wanted) h5 (by rw [hl]; simpa using c3)
        cases q : working (stepsOf m l) m.so m.wanted with
        | nil => exact absurd q hne
        | cons x r =>
          have hm := mem_minBy ltL r x
          rw [← q] at hm
          exact working_in hm
    · rw [if_neg c2]; exact G
theorem Good.answer {m : HouseM} (G : Good m) (p : Nat) (told row : List Nat) : Good (answer m p told row).1 := by
  match p with
  | 0 =>
    show Good (match Lp.begun (told.getD 0 0) (told.getD 1 0) (told.getD 2 0) with
      | some g => (g, [0])
      | none => (m, [-1])).1
    cases q : Lp.begun (told.getD 0 0) (told.getD 1 0) (told.getD 2 0) with
    | none => exact G
    | some g => exact Good.begun q
  | 1 => exact G.act row
  | 2 => exact G.plan row
  | 3 => exact G
  | 4 => exact G
  | 5 => exact G
  | 6 => exact G
  | _ + 7 => exact G
theorem cut_at {ns : List Nat} {lo k : Nat} {told r : List Nat} (h : ns.drop lo = told ++ r) (hk : told.length = k) (hlo : lo ≤ ns.length) : cutV (nV ns) (some (lo : Int)) (some ((lo + k : Nat) : Int)) = nV told := by
  unfold cutV
  have hl : (nV ns).length = ns.length := List.length_map ..
  have h2 : ns.length - lo = k + r.length := by
    have := congrArg List.length h
    rw [List.length_drop, List.length_append, hk] at this
    exact this
  rw [HT.sIx_nat, HT.sIx_nat, hl, Nat.min_eq_left hlo]
  have h3 : min (lo + k) ns.length - lo = k := by omega
  rw [h3, ← List.map_drop, h, ← List.map_take, ← hk, List.take_left]
theorem drop_get {ns : List Nat} {i p : Nat} {r : List Nat} (h : ns.drop i = p :: r) : ns[i]? = some p ∧ i < ns.length ∧ ns.drop (i + 1) = r := by
  have hl : i < ns.length := by
    have := congrArg List.length h
    rw [List.length_drop, List.length_cons] at this
    omega
  rw [List.drop_eq_getElem_cons hl] at h
  injection h with h1 h2
  exact ⟨by rw [List.getElem?_eq_getElem hl, h1], hl, h2⟩
theorem nV_some {ns : List Nat} {i p : Nat} (h : ns[i]? = some p) : (nV ns)[i]? = some (.int (p : Nat)) := by
  rw [List.getElem?_map, h]
  rfl
theorem el_if {σ : L2.St} {H : Hp} {t : TT} {ta tb : TE} {b : Bool} {xs : List V} (h : EvT t σ H b) (h1 : b = true → EvL ta σ H xs) (h2 : b = false → EvL tb σ H xs) : EvL (tIf t ta tb) σ H xs := fun H1 e Q q => h H1 e _ fun H2 e2 => by
  cases b with
  | true =>
    show ta σ H2 Q
    exact h1 rfl H2 (e.trans e2) Q fun p H3 hp e3 h3 => q p H3 (fresh_back e2 hp) (e2.trans e3) h3
  | false =>
    show tb σ H2 Q
    exact h2 rfl H2 (e.trans e2) Q fun p H3 hp e3 h3 => q p H3 (fresh_back e2 hp) (e2.trans e3) h3
theorem ev_neNil {K : PySem.W.Frag} {σ : L2.St} {H : Hp} {ta : TE} {a : Addr} {xs : List V} (h : Ev ta σ H (.ref a)) (hx : H a = some (.lst xs)) : Ev (tOp (rNeNil K) ta (tLst tNil)) σ H (.bl (!xs.isEmpty)) :=
  ev_opL h (el_lst ea_nil (by decide)) fun p H1 hp e1 H2 e2 Q q => ⟨a, p, xs, rfl, rfl, sq_of (e2 _ _ (e1 _ _ hx)), sq_of (e2 _ _ hp), q H2 (Ex.refl H2)⟩
/-- what is told of one call, added to what was found -/
theorem s_tell {K : PySem.W.Frag} {σ : L2.St} {H : Hp} {D : Ends} {tz : TS} {f g : Addr} {done giv : List Int} (hf : H f = some (.lst (iV done))) (hg : H g = some (.lst (iV giv))) (hfg : g ≠ f) (hσf : σ[2]? = some (some (.ref f))) (hσg : σ[9]? = some (some (.ref g))) (hz : done.length + giv.length + 1 ≤ 16000000)
    (k : ∀ H', H' f = some (.lst (iV (done ++ (giv.length : Int) :: giv))) → (∀ b o, H b = some o → b ≠ f → H' b = some o) → tz D σ H') :
    tSeq (tDrop (tBM K "list" rAppend (tVar 2) (tCons (tCB (rLenS K) (tCons (tVar 9) tNil)) tNil))) (tSeq (tDrop (tBM K "list" rExtend (tVar 2) (tCons (tVar 9) tNil))) tz) D σ H := by
  have hl1 : (iV done).length = done.length := List.length_map ..
  have hl2 : (iV giv).length = giv.length := List.length_map ..
  refine ⟨.ref f, hσf, Or.inl ⟨rfl, _, sq_of hf⟩, .ref g, hσg, g, _, rfl, Or.inl (sq_of hg), f, _, _, rfl, rfl, hf, ?_, ?_⟩
  · rw [hl1]
    exact Nat.lt_of_le_of_lt (show done.length ≤ 16000000 by omega) (by decide)
  · refine ⟨.ref f, hσf, Or.inl ⟨rfl, _, sq_of upd_same⟩, .ref g, hσg, f, g, _, _, rfl, rfl, upd_same, by rw [upd_ne hfg]; exact hg, ?_, ?_⟩
    · rw [List.length_append, hl1, hl2]
      exact Nat.le_trans (show done.length + 1 + giv.length ≤ 16000000 by omega) (by decide)
    · refine k _ ?_ fun b o hb hbf => by rw [upd_ne hbf, upd_ne hbf]; exact hb
      rw [upd_same, hl2]
      simp
theorem s_callAsg {σ : L2.St} {H : Hp} {D : Ends} {i : Nat} {sp : Sp} {vs : List V} {E : XK} {ta : TA} (h : EvA ta σ H vs) (k : ∀ H1, Ex H H1 → sp (vs ++ []) H1 (fun v H2 => D.nx (σ.set i (some v)) H2) E) : tAsg (tCall sp [] E ta) (gName i) D σ H := h H (Ex.refl H) _ k
theorem ev_add {σ : L2.St} {H : Hp} {ta tb : TE} {i j k : Int} (h1 : Ev ta σ H (.int i)) (h2 : Ev tb σ H (.int j)) (e : i + j = k) : Ev (tOp (rI0 fun i j => V.int (i + j)) ta tb) σ H (.int k) := ev_is (ev_op h1 h2 rv_I0) (congrArg V.int e)
def spAns2 (K : PySem.W.Frag) : Sp := fun vs H Q _ => ∃ (a : Addr) (ns : List Nat) (cs : List DC), vs = [.ref a] ∧ FrzL K H a (nV ns) ∧ ns = cs.flatMap encC ∧ (∀ c ∈ cs, ValidC c) ∧ ns.length ≤ 100000 ∧ (runM (HouseM.new 1 0 0) cs).length ≤ 10000000 ∧
  ∀ (H' : Hp) (p : Addr), H' p = some (.lst (iV (runM (HouseM.new 1 0 0) cs))) → Q (.ref p) H'
theorem q_house {D : Ends} {tz : TS} {i : Nat} {CH CC : Addr} {σ : L2.St} {H : Hp} {tr : TA} {f s w : Nat} {E : XK} (hA : EvA tr σ H [.int (f : Nat), .int (s : Nat), .int (w : Nat)])
    (k : ∀ x la Hs' H2, H x = none → H la = none → Ex H H2 → HouseAt CH CC Hs' H2 x la (HouseM.new f s w) → (∀ b o, H b = some o → Hs' b = none) → tz D (σ.set i (some (.ref x))) H2) : tSeq (tAsg (tMake CH (spHouse CH CC) [] E tr) (gName i)) tz D σ H := by
  show tr σ H _
  refine hA H (Ex.refl H) _ fun H1 e1 => ?_
  intro x dx hx hdx hne
  refine ⟨x, dx, f, s, w, rfl, upd_same, fun H2 Hs2 la HA hla hj kp => ⟨rfl, ?_⟩⟩
  have nla : H1 la = none := by
    have hlx : la ≠ x := fun e => by rw [e, upd_same] at hla; cases hla
    rw [upd_ne hlx] at hla
    by_cases hld : la = dx
    · rw [hld, upd_same] at hla
      cases hla
    · rw [upd_ne hld] at hla
      exact hla
  have e12 : Ex H1 H2 := fun b o e => kp b o (by rw [upd_ne (ne_of_none e hx), upd_ne (ne_of_none e hdx)]; exact e) (ne_of_none e hx)
  exact k x la Hs2 H2 (fresh_back e1 hx) (fresh_back e1 nla) (e1.trans e12) HA fun b o e => hj b o (by rw [upd_ne (ne_of_none (e1 b o e) hx), upd_ne (ne_of_none (e1 b o e) hdx)]; exact e1 b o e)
theorem numAt {p : Nat} (h : p ≤ 7) : (([3, 0, 0, 0, 0, 2, 0, 0] : List Int).map V.int)[p]? = some (V.int (numbersOf p : Nat)) := by
  match p, h with
  | 0, _ => rfl
  | 1, _ => rfl
  | 2, _ => rfl
  | 3, _ => rfl
  | 4, _ => rfl
  | 5, _ => rfl
  | 6, _ => rfl
  | 7, _ => rfl
  | n + 8, h => omega
theorem inRow (p : Nat) : inV (.int (p : Nat)) (([1, 2, 6, 7] : List Int).map V.int) = withRow p := by
  have h := inV_nat p [1, 2, 6, 7]
  refine Eq.trans h ?_
  unfold withRow
  have b : ∀ k : Nat, (p == k) = decide (p = k) := fun k => Bool.beq_eq_decide_eq ..
  rw [b 1, b 2, b 6, b 7]
  simp [List.contains_cons]
section
variable {P : Program} {w : World} {K : PySem.W.Frag} {mg : Str → Option Value} {base : Heap}
theorem sc_answers : FnScope ["calls", "house", "found", "at", "call", "behind", "told", "row", "some", "given"] ["calls"] (defScope s_answers) := ⟨rfl, rfl, rfl, by decide +kernel, rfl, by decide +kernel, by decide +kernel⟩
/-- the state ahead of a turn -/
structure Loop (K : PySem.W.Frag) (CH CC : Addr) (a : Addr) (ns : List Nat) (cs : List DC) (total : List Int) (σ : L2.St) (H : Hp) (i : Nat) (m : HouseM) (done : List Int) (h la f : Addr) : Prop where
  fr : FrzL K H a (nV ns)
  ho : ∃ Hs, HouseAt CH CC Hs H h la m ∧ Hs f = none
  gd : Good m
  fo : H f = some (.lst (iV done))
  fl : f ≠ la
  dr : ns.drop i = cs.flatMap encC
  il : i ≤ ns.length
  va : ∀ c ∈ cs, ValidC c
  tot : done ++ runM m cs = total
  σe : ∃ v4 v5 v6 v7 v8 v9, σ = [some (.ref a), some (.ref h), some (.ref f), some (.int (i : Nat)), v4, v5, v6, v7, v8, v9]
theorem ok_answers2 (T : All K mg) : FnOk P w K mg base CX0 10 T.answers.f T.answers.fd ["calls"] (spAns2 K) := by
  refine T.answers.F.ok sc_answers (fun vs H Q E h => ?_) (fun cdv A outer s H vs Q E hr h => ?_)
  · obtain ⟨a, ns, cs, rfl, _⟩ := h
    rfl
  · obtain ⟨a, ns, cs, rfl, hfr, hns, hva, hnl, htl, k⟩ := h
    obtain ⟨aN, cN, tN⟩ := T.c_NUMBERS
    obtain ⟨aR, cR, tR⟩ := T.c_WITH_ROW
    obtain ⟨tB, cB⟩ := T.c_BEGINS
    obtain ⟨tW, cW⟩ := T.c_WRONG
    refine ⟨_, pss_cons (ps_set (i := 1) sc_answers.nd rfl (.inl rfl) (pe_make T.mk_House (ok_house T) (hr.mono (by decide)) (by rfl) T.g_House T.House_init.b .nil pass0 (pa_cons pe_int (pa_cons pe_int (pa_cons pe_int pa_nil)))))
      (pss_cons (ps_set (i := 2) sc_answers.nd rfl (.inl rfl) (pe_lst pa_nil))
      (pss_cons (ps_set (i := 3) sc_answers.nd rfl (.inl rfl) pe_int)
      (pss_cons (ps_while PassesOwn.never (pt_cmpR op_lt (pv 3) (pe_callB call_len_seq (by rfl) T.z_len PySem.boot_len (pa_cons (pv 0) pa_nil)) (nomark _))
        (pss_cons (ps_set (i := 4) sc_answers.nd rfl (.inl rfl) (pe_ix ix_list (pv 0) (pv 3) (fun _ _ => rfl)))
        (pss_cons (ps_set (i := 5) sc_answers.nd rfl (.inl rfl) (pe_op op_add (pe_op op_add (pv 3) pe_int) (pe_ix ix_tup (pe_glob (v := .ref aN) (by rfl) cN rfl) (pv 4) (fun _ _ => rfl))))
        (pss_cons (ps_set (i := 6) sc_answers.nd rfl (.inl rfl) (pe_slice sl_list (pv 0) (po_some (pe_op op_add (pv 3) pe_int)) (po_some (pv 5))))
        (pss_cons (ps_set (i := 7) sc_answers.nd rfl (.inl rfl) (pe_lst pa_nil))
        (Evl.pss_cut (ps_if (pt_cmpR op_in_seq (pv 4) (pe_glob (v := .ref aR) (by rfl) cR rfl) (by rfl))
          (pss_cons (ps_set (i := 7) sc_answers.nd rfl (.inl rfl) (pe_slice sl_list (pv 0) (po_some (pe_op op_add (pv 5) pe_int)) (po_some (pe_op op_add (pe_op op_add (pv 5) pe_int) (pe_ix ix_list (pv 0) (pv 5) (fun _ _ => rfl))))))
          (pss_one (ps_set (i := 5) sc_answers.nd rfl (.inl rfl) (pe_op op_add (pe_op op_add (pv 5) pe_int) (pe_callB call_len_seq (by rfl) T.z_len PySem.boot_len (pa_cons (pv 7) pa_nil)))))) pss_nil)
        (Evl.pss_cut (ps_if (pt_cmpR op_eq (pv 4) (pe_glob (v := .int 0) (by rfl) cB ⟨_, rfl⟩) (nomark _))
          (pss_cons (ps_set (i := 8) sc_answers.nd rfl (.inl rfl) (pe_call (ok_begun T) (hr.mono (by decide)) (by rfl) T.begun.g T.begun.F.kp T.begun.b .nil pass0 (pa_cons (pe_ix ix_list (pv 6) pe_int (fun _ _ => rfl)) (pa_cons (pe_ix ix_list (pv 6) pe_int (fun _ _ => rfl)) (pa_cons (pe_ix ix_list (pv 6) pe_int (fun _ _ => rfl)) pa_nil)))))
          (pss_cons (ps_set (i := 9) sc_answers.nd rfl (.inl rfl) (pe_ifExp (pt_cmpR (op_neNil hr.units) (pv 8) (pe_lst pa_nil) (nomark _)) (pe_lst (pa_cons pe_int pa_nil)) (pe_lst (pa_cons (pe_glob (v := .int (-1)) (by rfl) cW ⟨_, rfl⟩) pa_nil))))
          (pss_one (ps_set (i := 1) sc_answers.nd rfl (.inl rfl) (pe_ifExp (pt_cmpR (op_neNil hr.units) (pv 8) (pe_lst pa_nil) (nomark _)) (pe_ix ix_list (pv 8) pe_int (fun _ _ => rfl)) (pv 1))))))
          (pss_one (ps_set (i := 9) sc_answers.nd rfl (.inl rfl) (pe_call (ok_answer T) (hr.mono (by decide)) (by rfl) T.answer.g T.answer.F.kp T.answer.b .nil pass0 (pa_cons (pv 1) (pa_cons (pv 4) (pa_cons (pv 6) (pa_cons (pv 7) pa_nil))))))))
        (pss_cons (ps_expr (pe_bm PySem.F.plainAttrs_list PySem.F.slot_list_append PySem.F.type_list_append mt_append (pv 2) (pa_cons (pe_callB call_len_seq (by rfl) T.z_len PySem.boot_len (pa_cons (pv 9) pa_nil)) pa_nil)))
        (pss_cons (ps_expr (pe_bm PySem.F.plainAttrs_list PySem.F.slot_list_extend PySem.F.type_list_extend mt_extend (pv 2) (pa_cons (pv 9) pa_nil)))
        (pss_one (ps_set (i := 3) sc_answers.nd rfl (.inl rfl) (pv 5))))))))))))
      (pss_one (ps_ret (pv 2)))))), ?_⟩
    -- house = House(1, 0, 0); found = []; at = 0
    refine q_house (f := 1) (s := 0) (w := 0) (ea_cons ev_c (ea_cons ev_c (ea_cons ev_c ea_nil))) fun x la Hs1 H1 hx hla e1 HA1 hj1 => ?_
    refine q_asgL (xs := iV []) (el_lst ea_nil (by decide)) fun f H2 hf e2 h2f => ?_
    refine q_asg (v := .int ((0 : Nat) : Int)) ev_c fun H3 e3 => ?_
    have hfr3 : FrzL K H3 a (nV ns) := hfr.up fun b o u hb => e3 _ _ (e2 _ _ (e1 _ _ hb))
    obtain ⟨_, _, _, _, _, hla1, _, _, _⟩ := HA1.ob
    have hfla : f ≠ la := (ne_of_none hla1 hf).symm
    refine q_while (fun n σ H => ∃ cs2 i m done h la f, n = cs2.length ∧ Loop K T.House T.Case a ns cs2 (runM (HouseM.new 1 0 0) cs) σ H i m done h la f) cs.length
      ⟨cs, 0, HouseM.new 1 0 0, [], x, la, f, rfl, hfr3, ⟨Hs1, HA1.ext (e2.trans e3), fresh_back HA1.ex hf⟩, Good.new, e3 _ _ h2f, hfla, by rw [List.drop_zero]; exact hns, Nat.zero_le _, hva, rfl, none, none, none, none, none, none, rfl⟩ ?_
    rintro n σ H4 ⟨cs2, i, m, done, h, la, f, rfl, L⟩
    obtain ⟨fr, ⟨Hs, HA, hsf⟩, gd, fo, hfl, dr, il, va, tot, v4, v5, v6, v7, v8, v9, rfl⟩ := L
    refine ⟨decide (i < ns.length), et_test (ev_op (ev_var rfl) (ev_is (ev_len (ev_var rfl) fr.sq) (by rw [nV_len])) (rv_b (lt_nat _ _))), fun hb H5 e5 => ⟨_, fun σ2 H2 h => h, ?_⟩, fun hb H5 e5 => ?_⟩
    · have hi : i < ns.length := by simpa using hb
      -- one call
      obtain ⟨c, cs3, rfl⟩ : ∃ c cs3, cs2 = c :: cs3 := by
        cases cs2 with
        | nil =>
          have := congrArg List.length dr
          rw [List.length_drop, List.flatMap_nil, List.length_nil] at this
          omega
        | cons c cs3 => exact ⟨c, cs3, rfl⟩
      obtain ⟨p, told, row⟩ := c
      have vc : ValidC (p, told, row) := va _ List.mem_cons_self
      have hp7 : p ≤ 7 := vc.p
      have htn : told.length = numbersOf p := vc.n
      have hrn : row.length ≤ 20 := vc.r
      have dr1 : ns.drop i = p :: (told ++ ((if withRow p = true then row.length :: row else []) ++ cs3.flatMap encC)) := by
        rw [dr, List.flatMap_cons]
        unfold encC
        simp
      obtain ⟨g1, _, g3⟩ := drop_get dr1
      have hend : i + 1 + told.length ≤ ns.length := by
        have := congrArg List.length g3
        rw [List.length_drop, List.length_append] at this
        omega
      have g4 : ns.drop (i + 1 + told.length) = (if withRow p = true then row.length :: row else []) ++ cs3.flatMap encC := by
        rw [← List.drop_drop, g3, List.drop_left]
      have fr5 := fr.up fun b o u hb => e5 _ _ hb
      have HA5 := HA.ext e5
      have fo5 := e5 _ _ fo
      -- call, behind, told, row
      refine q_asg (v := .int (p : Nat)) (ev_op (ev_var rfl) (ev_var rfl) (rv_ixL fr5.sq (atI_nat (nV_some g1)))) fun H6 e6 => ?_
      refine q_asg (v := .int ((i + 1 + told.length : Nat) : Int)) (ev_is (ev_op (ev_op (ev_var rfl) ev_c rv_I0) (ev_op ev_c (ev_var rfl) (rv_ixT (tN H6) (atI_nat (numAt hp7)))) rv_I0) (congrArg V.int (by rw [htn]; omega))) fun H7 e7 => ?_
      have e57 := e6.trans e7
      have fr7 := fr5.up fun b o u hb => e57 _ _ hb
      refine q_asgL (xs := nV told) ?_ fun t H8 ht e8 h8 => ?_
      · have q := el_sl (K := K) (σ := [some (.ref a), some (.ref h), some (.ref f), some (.int (i : Nat)), some (.int (p : Nat)), some (.int ((i + 1 + told.length : Nat) : Int)), v6, v7, v8, v9]) (lo := some ((i + 1 : Nat) : Int)) (hi := some ((i + 1 + told.length : Nat) : Int)) (ev_var (i := 0) rfl)
          (eo_some (ev_add (ev_var (i := 3) rfl) (ev_c (v := .int 1)) (by omega))) (eo_some (ev_var (i := 5) rfl)) fr7.sq
        rw [cut_at (lo := i + 1) (k := told.length) g3 rfl (by omega)] at q
        exact q
      refine q_asgL (xs := nV []) (el_lst ea_nil (by decide)) fun r0 H9 hr0 e9 h9 => ?_
      have e59 := (e57.trans e8).trans e9
      have fr9 := fr5.up fun b o u hb => e59 _ _ hb
      have HA9 := HA5.ext e59
      have fo9 := e59 _ _ fo5
      have ht9 := e9 _ _ h8
      obtain ⟨_, _, _, us9, _, hla9, _, _, _⟩ := HA9.ob
      have hr0la : r0 ≠ la := by
        intro z
        rw [z] at hr0
        have := (e57.trans e8) la
        obtain ⟨_, _, _, us5, _, hla5, _, _, _⟩ := HA5.ob
        rw [this _ hla5] at hr0
        cases hr0
      -- the row
      refine q_cut (M := fun σ H' => ∃ r, σ = [some (.ref a), some (.ref h), some (.ref f), some (.int (i : Nat)), some (.int (p : Nat)), some (.int ((i + (encC (p, told, row)).length : Nat) : Int)), some (.ref t), some (.ref r), v8, v9] ∧ Ex H9 H' ∧ H' r = some (.lst (nV row)) ∧ r ≠ la) ?_ ?_
      · refine s_when (b := withRow p) (et_test (ev_is (ev_op (ev_var rfl) ev_c (rv_isT (tR H9) rfl (by rfl))) (by rw [inRow]))) ?_ ?_
        · intro hw H10 e10
          rw [if_pos hw] at g4
          have g5 : ns.drop (i + 1 + told.length) = row.length :: (row ++ cs3.flatMap encC) := by rw [g4]; rfl
          obtain ⟨k1, k2, k3⟩ := drop_get g5
          have fr10 := fr9.up fun b o u hb => e10 _ _ hb
          have hrend : i + 1 + told.length + 1 + row.length ≤ ns.length := by
            have := congrArg List.length k3
            rw [List.length_drop, List.length_append] at this
            omega
          refine q_asgL (xs := nV row) ?_ fun r H11 hr e11 h11 => ?_
          · have q := el_sl (K := K) (σ := [some (.ref a), some (.ref h), some (.ref f), some (.int (i : Nat)), some (.int (p : Nat)), some (.int ((i + 1 + told.length : Nat) : Int)), some (.ref t), some (.ref r0), v8, v9]) (lo := some ((i + 1 + told.length + 1 : Nat) : Int)) (hi := some ((i + 1 + told.length + 1 + row.length : Nat) : Int)) (ev_var (i := 0) rfl)
              (eo_some (ev_add (ev_var (i := 5) rfl) (ev_c (v := .int 1)) (by omega))) (eo_some (ev_add (ev_add (ev_var (i := 5) rfl) (ev_c (v := .int 1)) rfl) (ev_op (ev_var (i := 0) rfl) (ev_var (i := 5) rfl) (rv_ixL fr10.sq (atI_nat (nV_some k1)))) (by omega))) fr10.sq
            rw [cut_at (lo := i + 1 + told.length + 1) (k := row.length) k3 rfl (by omega)] at q
            exact q
          · refine s_asg (v := .int ((i + (encC (p, told, row)).length : Nat) : Int)) (ev_is (ev_op (ev_op (ev_var rfl) ev_c rv_I0) (ev_lenI (ev_var rfl) h11) rv_I0) ?_) fun H12 e12 => ⟨r, rfl, (e10.trans e11).trans e12, e12 _ _ h11, ?_⟩
            · have : (encC (p, told, row)).length = 1 + told.length + 1 + row.length := by
                unfold encC
                rw [if_pos hw]
                simp
                omega
              rw [this]
              exact congrArg V.int (by omega)
            · exact (ne_of_none (e10 _ _ hla9) hr).symm
        · intro hw H10 e10
          have hr0' : row = [] := vc.z hw
          refine ⟨r0, ?_, e10, ?_, hr0la⟩
          · have : (encC (p, told, row)).length = 1 + told.length := by
              unfold encC
              rw [if_neg (by rw [hw]; decide)]
              simp
              omega
            rw [this, ← Nat.add_assoc]
            rfl
          · rw [hr0']
            exact e10 _ _ h9
      rintro σ H10 ⟨r, rfl, e10, hr10, hrla⟩
      have fr10 := fr9.up fun b o u hb => e10 _ _ hb
      have HA10 := HA9.ext e10
      have fo10 := e10 _ _ fo9
      have ht10 := e10 _ _ ht9
      -- what is answered
      have hans : runM m ((p, told, row) :: cs3) = ((answer m p told row).2.length : Int) :: ((answer m p told row).2 ++ runM (answer m p told row).1 cs3) := rfl
      refine q_cut (M := fun σ H' => ∃ h' la' g Hs' w8, σ = [some (.ref a), some (.ref h'), some (.ref f), some (.int (i : Nat)), some (.int (p : Nat)), some (.int ((i + (encC (p, told, row)).length : Nat) : Int)), some (.ref t), some (.ref r), w8, some (.ref g)] ∧ FrzL K H' a (nV ns) ∧
        HouseAt T.House T.Case Hs' H' h' la' (answer m p told row).1 ∧ Hs' f = none ∧ H' g = some (.lst (iV (answer m p told row).2)) ∧ H' f = some (.lst (iV done)) ∧ f ≠ la' ∧ g ≠ f) ?_ ?_
      · refine s_if (b := decide (p = 0)) (et_test (ev_is (ev_op (ev_var rfl) ev_c (rv_eq rfl)) (congrArg V.bl (dN p 0)))) ?_ ?_
        · intro hp0 H11 e11
          have hp0' : p = 0 := by simpa using hp0
          subst hp0'
          have h3 : told.length = 3 := htn
          have e_ans : answer m 0 told row = (match Lp.begun (told.getD 0 0) (told.getD 1 0) (told.getD 2 0) with
            | some g => (g, [0])
            | none => (m, [-1])) := rfl
          have fr11 := fr10.up fun b o u hb => e11 _ _ hb
          have HA11 := HA10.ext e11
          have fo11 := e11 _ _ fo10
          have ht11 := e11 _ _ ht10
          -- some = begun(..)
          have hargs : EvA (tCons (tOp (rIxL K) (tVar 6) (tC (.int 0))) (tCons (tOp (rIxL K) (tVar 6) (tC (.int 1))) (tCons (tOp (rIxL K) (tVar 6) (tC (.int 2))) tNil))) [some (.ref a), some (.ref h), some (.ref f), some (.int (i : Nat)), some (.int ((0 : Nat) : Int)), some (.int ((i + (encC (0, told, row)).length : Nat) : Int)), some (.ref t), some (.ref r), v8, v9] H11 [.int (told.getD 0 0 : Nat), .int (told.getD 1 0 : Nat), .int (told.getD 2 0 : Nat)] :=
            ea_cons (ev_op (ev_var rfl) ev_c (rv_ixL (sq_of ht11) (atI_nat (j := 0) (nV_at (by omega))))) (ea_cons (ev_op (ev_var rfl) ev_c (rv_ixL (sq_of ht11) (atI_nat (j := 1) (nV_at (by omega))))) (ea_cons (ev_op (ev_var rfl) ev_c (rv_ixL (sq_of ht11) (atI_nat (j := 2) (nV_at (by omega))))) ea_nil))
          refine s_callAsg hargs fun H12 e12 => ?_
          have e1112 : Ex H11 H12 := e12
          refine ⟨told.getD 0 0, told.getD 1 0, told.getD 2 0, rfl, fun hn q H13 hq e13 h13 => ?_, fun g hg q h' la' Hs' H13 hq hh' hla' e13 h13 hj HA' => ?_⟩
          · -- refused
            have e1113 := e12.trans e13
            have ea : answer m 0 told row = (m, [-1]) := by rw [e_ans, hn]
            refine q_asgL (xs := iV [-1]) (el_if (et_test (ev_neNil (ev_var rfl) h13)) (fun z => by cases z) fun _ => el_lst (ea_cons ev_c ea_nil) (by decide)) fun g H14 hgn e14 h14 => ?_
            refine s_asg (v := .ref h) (ev_if (et_test (ev_neNil (ev_var rfl) (e14 _ _ h13))) (fun z => by cases z) fun _ => ev_var rfl) fun H15 e15 => ?_
            have e1115 := (e1113.trans e14).trans e15
            refine ⟨h, la, g, Hs, _, rfl, fr11.up fun b o u hb => e1115 _ _ hb, by rw [ea]; exact HA11.ext e1115, hsf, by rw [ea]; exact e15 _ _ h14, e1115 _ _ fo11, hfl, (ne_of_none (e1113 _ _ fo11) hgn).symm⟩
          · have e1113 := e12.trans e13
            have ea : answer m 0 told row = (g, [0]) := by rw [e_ans, hg]
            refine q_asgL (xs := iV [0]) (el_if (et_test (ev_neNil (ev_var rfl) h13)) (fun _ => el_lst (ea_cons ev_c ea_nil) (by decide)) fun z => by cases z) fun gl H14 hgn e14 h14 => ?_
            refine s_asg (v := .ref h') (ev_if (et_test (ev_neNil (ev_var rfl) (e14 _ _ h13))) (fun _ => ev_op (ev_var rfl) ev_c (rv_ixL (sq_of (e14 _ _ h13)) (atI_nat (j := 0) rfl))) fun z => by cases z) fun H15 e15 => ?_
            have e1115 := (e1113.trans e14).trans e15
            refine ⟨h', la', gl, Hs', _, rfl, fr11.up fun b o u hb => e1115 _ _ hb, by rw [ea]; exact HA'.ext (e14.trans e15), hj _ _ (e12 _ _ fo11), by rw [ea]; exact e15 _ _ h14, e1115 _ _ fo11, ne_of_none (e12 _ _ fo11) hla', (ne_of_none (e1113 _ _ fo11) hgn).symm⟩
        · intro hp0 H11 e11
          have hp0' : ¬ p = 0 := by simpa using hp0
          have fr11 := fr10.up fun b o u hb => e11 _ _ hb
          have fo11 := e11 _ _ fo10
          refine s_callAsg (vs := [.ref h, .int (p : Nat), .ref t, .ref r]) (ea_cons (ev_var rfl) (ea_cons (ev_var rfl) (ea_cons (ev_var rfl) (ea_cons (ev_var rfl) ea_nil)))) fun H12 e12 => ?_
          have e1012 := e11.trans e12
          have HA12 := HA10.ext e1012
          obtain ⟨dxz, cz, oaz, usz, z1, z2, _, _, _⟩ := HA12.ob
          have fo12 := e12 _ _ fo11
          have hfh : f ≠ h := ne_of fo12 z1 (by intro q; cases q)
          refine ⟨Hs, h, la, t, r, m, p, told, row, rfl, HA12, gd, e1012 _ _ ht10, e1012 _ _ hr10, hrla, by omega, by omega, hp7, fun e => by rw [htn, e]; rfl, fun g H13 Hs' hg hg13 HA13 hj kp => ?_⟩
          refine ⟨h, la, g, Hs', _, rfl, fr11.up fun b o u hb => kp b _ (e12 _ _ hb) ?_ ?_, HA13, hj _ _ fo12 hsf, hg13, kp _ _ fo12 hfh hfl, hfl, (ne_of_none fo12 hg).symm⟩
          · exact ne_of (e12 _ _ hb) z1 (by intro q; cases q)
          · exact ne_of (e12 _ _ hb) z2 (by intro q; cases q)
      rintro σ H11 ⟨h', la', g, Hs', w8, rfl, fr11, HA11, hsf', hg11, fo11, hfl', hgf⟩
      -- found.append(len(given)); found.extend(given); at = behind
      have htot : done ++ (((answer m p told row).2.length : Int) :: ((answer m p told row).2 ++ runM (answer m p told row).1 cs3)) = runM (HouseM.new 1 0 0) cs := tot
      have hsize : done.length + (answer m p told row).2.length + 1 ≤ 16000000 := by
        have := congrArg List.length htot
        rw [List.length_append, List.length_cons, List.length_append] at this
        omega
      refine s_tell fo11 hg11 hgf rfl rfl hsize fun H12 hf12 kp => ?_
      refine s_asg (v := .int ((i + (encC (p, told, row)).length : Nat) : Int)) (ev_var rfl) fun H13 e13 => ?_
      obtain ⟨dx', c', oa', us', z1, z2, z3, z4, z5⟩ := HA11.ob
      have hf1 : ∀ b o u, H11 b = some (.frz o u) → H13 b = some (.frz o u) := fun b o u hb => e13 _ _ (kp b _ hb (ne_of hb fo11 (by intro q; cases q)))
      have HA13 : HouseAt T.House T.Case Hs' H13 h' la' (answer m p told row).1 := by
        refine ⟨⟨dx', c', oa', us', e13 _ _ (kp _ _ z1 (ne_of z1 fo11 (by intro q; cases q))), e13 _ _ (kp _ _ z2 hfl'.symm), z3, z4, z5⟩, fun b o hb => e13 _ _ (kp b o (HA11.ex b o hb) ?_), HA11.nh, HA11.nl⟩
        intro q
        rw [q, hsf'] at hb
        cases hb
      refine ⟨cs3.length, Nat.lt_succ_self _, cs3, i + (encC (p, told, row)).length, (answer m p told row).1, done ++ (((answer m p told row).2.length : Int) :: (answer m p told row).2), h', la', f, rfl, ?_⟩
      refine ⟨fr11.up hf1, ⟨Hs', HA13, hsf'⟩, gd.answer _ _ _, e13 _ _ hf12, hfl', ?_, ?_, fun c hc => va c (List.mem_cons_of_mem _ hc), ?_, ⟨_, _, _, _, _, _, rfl⟩⟩
      · rw [← List.drop_drop, dr, List.flatMap_cons, List.drop_left]
      · have := congrArg List.length dr
        rw [List.length_drop, List.flatMap_cons, List.length_append] at this
        omega
      · rw [← htot]
        simp
    · have hi : ¬ i < ns.length := by simpa using hb
      have hcs : cs2 = [] := by
        cases cs2 with
        | nil => rfl
        | cons c cs3 =>
          have := congrArg List.length dr
          rw [List.length_drop, List.flatMap_cons, List.length_append] at this
          unfold encC at this
          rw [List.length_cons] at this
          omega
      subst hcs
      have hd : done = runM (HouseM.new 1 0 0) cs := by
        rw [← tot]
        show done = done ++ []
        rw [List.append_nil]
      refine s_ret (v := .ref f) (ev_var rfl) fun H6 e6 => k H6 f ?_
      rw [← hd]
      exact e6 _ _ (e5 _ _ fo)
end
end Lp
end
section
set_option Elab.async false
set_option linter.all false
set_option maxRecDepth 100000
set_option maxHeartbeats 4000000
namespace Lp
open PySem PySem.Spec PyProof.Rows L2 Evl
/-! ### what is promised of answers -/
def spAns (K : PySem.W.Frag) : Sp := fun vs H Q _ => ∃ (a : Addr) (ns : List Int), vs = [.ref a] ∧ SqL K H a (ns.map V.int) ∧ OnlyF H ∧ PyPn04.answers_asked ns = true ∧ (∀ z ∈ ns, 0 ≤ z ∧ z ≤ 4294967295) ∧ ns.length ≤ 1320 ∧
  ∀ (H' : Hp) (p : Addr), H' p = some (.lst ((PyPn04.answers ns).map V.int)) → Q (.ref p) H'
theorem map_ints (l : List Nat) : (intsN l).map V.int = nV l := by
  unfold intsN
  rw [List.map_map]
  rfl
theorem ok_answers {P : Program} {w : World} {K : PySem.W.Frag} {mg : Str → Option Value} {base : Heap} (T : All K mg) : FnOk P w K mg base CX0 10 T.answers.f T.answers.fd ["calls"] (spAns K) := by
  refine (ok_answers2 T).imp fun vs H Q E h => ?_
  obtain ⟨a, ns, rfl, hs, hO, hask, hin, hlen, k⟩ := h
  obtain ⟨cs, h1, h2, h3, h4⟩ := asked_of hask fun z hz => (hin z hz).1
  refine ⟨a, cs.flatMap encC, cs, rfl, ?_, rfl, h2, ?_, h4, fun H' p hp => k H' p ?_⟩
  · rw [h1, map_ints] at hs
    exact FrzL.of hs hO
  · have : ns.length = (cs.flatMap encC).length := by rw [h1]; exact List.length_map ..
    omega
  · rw [h3]
    exact hp
end Lp
end
section
set_option Elab.async false
set_option linter.all false
set_option maxRecDepth 100000
set_option maxHeartbeats 4000000
set_option pp.maxSteps 400
set_option pp.deepTerms false
namespace Lp
open PySem PySem.Spec PyProof.Rows L2 Evl
theorem all_mk {P : Program} {w : World} {K : PySem.W.Frag} {h : Heap} {mg : Str → Option Value} (X : K.In h) (G : h.Ns mainGlobals mg)
    {fa : Addr}
    {aCase : Addr}
    {aHouse : Addr}
    {f_Case_init : Addr} {od_Case_init an_Case_init : Option Addr} {sl_Case_init : Array (Option Value)} {oc_Case_init kV_Case_init dc_Case_init pm_Case_init cd_Case_init ct_Case_init : Value}
    {f_Case_tried : Addr} {od_Case_tried an_Case_tried : Option Addr} {sl_Case_tried : Array (Option Value)} {oc_Case_tried kV_Case_tried dc_Case_tried pm_Case_tried cd_Case_tried ct_Case_tried : Value}
    {f_Case_fails : Addr} {od_Case_fails an_Case_fails : Option Addr} {sl_Case_fails : Array (Option Value)} {oc_Case_fails kV_Case_fails dc_Case_fails pm_Case_fails cd_Case_fails ct_Case_fails : Value}
    {f_Case_all_steps : Addr} {od_Case_all_steps an_Case_all_steps : Option Addr} {sl_Case_all_steps : Array (Option Value)} {oc_Case_all_steps kV_Case_all_steps dc_Case_all_steps pm_Case_all_steps cd_Case_all_steps ct_Case_all_steps : Value}
    {f_Case_failing : Addr} {od_Case_failing an_Case_failing : Option Addr} {sl_Case_failing : Array (Option Value)} {oc_Case_failing kV_Case_failing dc_Case_failing pm_Case_failing cd_Case_failing ct_Case_failing : Value}
    {f_House_init : Addr} {od_House_init an_House_init : Option Addr} {sl_House_init : Array (Option Value)} {oc_House_init kV_House_init dc_House_init pm_House_init cd_House_init ct_House_init : Value}
    {f_may_be_done : Addr} {od_may_be_done an_may_be_done : Option Addr} {sl_may_be_done : Array (Option Value)} {oc_may_be_done kV_may_be_done dc_may_be_done pm_may_be_done cd_may_be_done ct_may_be_done : Value}
    {f_behind : Addr} {od_behind an_behind : Option Addr} {sl_behind : Array (Option Value)} {oc_behind kV_behind dc_behind pm_behind cd_behind ct_behind : Value}
    {f_rows_of : Addr} {od_rows_of an_rows_of : Option Addr} {sl_rows_of : Array (Option Value)} {oc_rows_of kV_rows_of dc_rows_of pm_rows_of cd_rows_of ct_rows_of : Value}
    {f_members : Addr} {od_members an_members : Option Addr} {sl_members : Array (Option Value)} {oc_members kV_members dc_members pm_members cd_members ct_members : Value}
    {f_pairs_of : Addr} {od_pairs_of an_pairs_of : Option Addr} {sl_pairs_of : Array (Option Value)} {oc_pairs_of kV_pairs_of dc_pairs_of pm_pairs_of cd_pairs_of ct_pairs_of : Value}
    {f_told_pairs : Addr} {od_told_pairs an_told_pairs : Option Addr} {sl_told_pairs : Array (Option Value)} {oc_told_pairs kV_told_pairs dc_told_pairs pm_told_pairs cd_told_pairs ct_told_pairs : Value}
    {f_is_whole : Addr} {od_is_whole an_is_whole : Option Addr} {sl_is_whole : Array (Option Value)} {oc_is_whole kV_is_whole dc_is_whole pm_is_whole cd_is_whole ct_is_whole : Value}
    {f_all_orders : Addr} {od_all_orders an_all_orders : Option Addr} {sl_all_orders : Array (Option Value)} {oc_all_orders kV_all_orders dc_all_orders pm_all_orders cd_all_orders ct_all_orders : Value}
    {f_lets : Addr} {od_lets an_lets : Option Addr} {sl_lets : Array (Option Value)} {oc_lets kV_lets dc_lets pm_lets cd_lets ct_lets : Value}
    {f_working : Addr} {od_working an_working : Option Addr} {sl_working : Array (Option Value)} {oc_working kV_working dc_working pm_working cd_working ct_working : Value}
    {f_loosened : Addr} {od_loosened an_loosened : Option Addr} {sl_loosened : Array (Option Value)} {oc_loosened kV_loosened dc_loosened pm_loosened cd_loosened ct_loosened : Value}
    {f_ends_of : Addr} {od_ends_of an_ends_of : Option Addr} {sl_ends_of : Array (Option Value)} {oc_ends_of kV_ends_of dc_ends_of pm_ends_of cd_ends_of ct_ends_of : Value}
    {f_soonest : Addr} {od_soonest an_soonest : Option Addr} {sl_soonest : Array (Option Value)} {oc_soonest kV_soonest dc_soonest pm_soonest cd_soonest ct_soonest : Value}
    {f_first_failing : Addr} {od_first_failing an_first_failing : Option Addr} {sl_first_failing : Array (Option Value)} {oc_first_failing kV_first_failing dc_first_failing pm_first_failing cd_first_failing ct_first_failing : Value}
    {f_with_all_before : Addr} {od_with_all_before an_with_all_before : Option Addr} {sl_with_all_before : Array (Option Value)} {oc_with_all_before kV_with_all_before dc_with_all_before pm_with_all_before cd_with_all_before ct_with_all_before : Value}
    {f_begun : Addr} {od_begun an_begun : Option Addr} {sl_begun : Array (Option Value)} {oc_begun kV_begun dc_begun pm_begun cd_begun ct_begun : Value}
    {f_is_act : Addr} {od_is_act an_is_act : Option Addr} {sl_is_act : Array (Option Value)} {oc_is_act kV_is_act dc_is_act pm_is_act cd_is_act ct_is_act : Value}
    {f_act : Addr} {od_act an_act : Option Addr} {sl_act : Array (Option Value)} {oc_act kV_act dc_act pm_act cd_act ct_act : Value}
    {f_plan : Addr} {od_plan an_plan : Option Addr} {sl_plan : Array (Option Value)} {oc_plan kV_plan dc_plan pm_plan cd_plan ct_plan : Value}
    {f_loosen : Addr} {od_loosen an_loosen : Option Addr} {sl_loosen : Array (Option Value)} {oc_loosen kV_loosen dc_loosen pm_loosen cd_loosen ct_loosen : Value}
    {f_rows : Addr} {od_rows an_rows : Option Addr} {sl_rows : Array (Option Value)} {oc_rows kV_rows dc_rows pm_rows cd_rows ct_rows : Value}
    {f_failing_told : Addr} {od_failing_told an_failing_told : Option Addr} {sl_failing_told : Array (Option Value)} {oc_failing_told kV_failing_told dc_failing_told pm_failing_told cd_failing_told ct_failing_told : Value}
    {f_is_near_pair : Addr} {od_is_near_pair an_is_near_pair : Option Addr} {sl_is_near_pair : Array (Option Value)} {oc_is_near_pair kV_is_near_pair dc_is_near_pair pm_is_near_pair cd_is_near_pair ct_is_near_pair : Value}
    {f_why : Addr} {od_why an_why : Option Addr} {sl_why : Array (Option Value)} {oc_why kV_why dc_why pm_why cd_why ct_why : Value}
    {f_soonest_told : Addr} {od_soonest_told an_soonest_told : Option Addr} {sl_soonest_told : Array (Option Value)} {oc_soonest_told kV_soonest_told dc_soonest_told pm_soonest_told cd_soonest_told ct_soonest_told : Value}
    {f_check : Addr} {od_check an_check : Option Addr} {sl_check : Array (Option Value)} {oc_check kV_check dc_check pm_check cd_check ct_check : Value}
    {f_answer : Addr} {od_answer an_answer : Option Addr} {sl_answer : Array (Option Value)} {oc_answer kV_answer dc_answer pm_answer cd_answer ct_answer : Value}
    {f_answers : Addr} {od_answers an_answers : Option Addr} {sl_answers : Array (Option Value)} {oc_answers kV_answers dc_answers pm_answers cd_answers ct_answers : Value}
    {t_WRONG : Tok}
    {t_NO_PAIR : Tok}
    {t_NO_PLAN : Tok}
    {t_TOO_MANY : Tok}
    {t_MOST_FACTS : Tok}
    {t_MOST_ACTS : Tok}
    {t_MOST_STEPS : Tok}
    {t_MOST_COST : Tok}
    {t_NUMBERS_OF_ACT : Tok}
    {t_BEGINS : Tok}
    {q_NUMBERS : Addr} {dq_NUMBERS : Option Addr} {sq_NUMBERS : Array (Option Value)} {nq_NUMBERS : Nat} {t_NUMBERS_0 t_NUMBERS_1 t_NUMBERS_2 t_NUMBERS_3 t_NUMBERS_4 t_NUMBERS_5 t_NUMBERS_6 t_NUMBERS_7 : Tok}
    {q_WITH_ROW : Addr} {dq_WITH_ROW : Option Addr} {sq_WITH_ROW : Array (Option Value)} {nq_WITH_ROW : Nat} {t_WITH_ROW_0 t_WITH_ROW_1 t_WITH_ROW_2 t_WITH_ROW_3 : Tok}
    (hfa : mg "answers" = some (.ref fa))
    (aC_Case : PySem.W.nsIn K mainGlobals "Case" = some (some (.ref aCase)))
    (aC_House : PySem.W.nsIn K mainGlobals "House" = some (some (.ref aHouse)))
    (a_Case_init : PySem.W.findIn K (.ref aCase) "__init__" = some (some (.ref f_Case_init)))
    (i_Case_init : PySem.W.isFn K (.ref f_Case_init) = true)
    (l_Case_init : K.lookup f_Case_init = some ⟨oc_Case_init, od_Case_init, .func (PySem.W.fnOf "__init__" "Case.__init__" (defArgs s_Case_init) (defBody s_Case_init) (defScope s_Case_init) .none kV_Case_init dc_Case_init pm_Case_init an_Case_init cd_Case_init ct_Case_init), sl_Case_init⟩)
    (c_Case_init : PySem.W.codeIn K cd_Case_init "Case.__init__" = true)
    (k_Case_init : PySem.W.keepIn K (.ref f_Case_init) = true)
    (a_Case_tried : PySem.W.findIn K (.ref aCase) "tried" = some (some (.ref f_Case_tried)))
    (i_Case_tried : PySem.W.isFn K (.ref f_Case_tried) = true)
    (l_Case_tried : K.lookup f_Case_tried = some ⟨oc_Case_tried, od_Case_tried, .func (PySem.W.fnOf "tried" "Case.tried" (defArgs s_Case_tried) (defBody s_Case_tried) (defScope s_Case_tried) .none kV_Case_tried dc_Case_tried pm_Case_tried an_Case_tried cd_Case_tried ct_Case_tried), sl_Case_tried⟩)
    (c_Case_tried : PySem.W.codeIn K cd_Case_tried "Case.tried" = true)
    (k_Case_tried : PySem.W.keepIn K (.ref f_Case_tried) = true)
    (a_Case_fails : PySem.W.findIn K (.ref aCase) "fails" = some (some (.ref f_Case_fails)))
    (i_Case_fails : PySem.W.isFn K (.ref f_Case_fails) = true)
    (l_Case_fails : K.lookup f_Case_fails = some ⟨oc_Case_fails, od_Case_fails, .func (PySem.W.fnOf "fails" "Case.fails" (defArgs s_Case_fails) (defBody s_Case_fails) (defScope s_Case_fails) .none kV_Case_fails dc_Case_fails pm_Case_fails an_Case_fails cd_Case_fails ct_Case_fails), sl_Case_fails⟩)
    (c_Case_fails : PySem.W.codeIn K cd_Case_fails "Case.fails" = true)
    (k_Case_fails : PySem.W.keepIn K (.ref f_Case_fails) = true)
    (a_Case_all_steps : PySem.W.findIn K (.ref aCase) "all_steps" = some (some (.ref f_Case_all_steps)))
    (i_Case_all_steps : PySem.W.isFn K (.ref f_Case_all_steps) = true)
    (l_Case_all_steps : K.lookup f_Case_all_steps = some ⟨oc_Case_all_steps, od_Case_all_steps, .func (PySem.W.fnOf "all_steps" "Case.all_steps" (defArgs s_Case_all_steps) (defBody s_Case_all_steps) (defScope s_Case_all_steps) .none kV_Case_all_steps dc_Case_all_steps pm_Case_all_steps an_Case_all_steps cd_Case_all_steps ct_Case_all_steps), sl_Case_all_steps⟩)
    (c_Case_all_steps : PySem.W.codeIn K cd_Case_all_steps "Case.all_steps" = true)
    (k_Case_all_steps : PySem.W.keepIn K (.ref f_Case_all_steps) = true)
    (a_Case_failing : PySem.W.findIn K (.ref aCase) "failing" = some (some (.ref f_Case_failing)))
    (i_Case_failing : PySem.W.isFn K (.ref f_Case_failing) = true)
    (l_Case_failing : K.lookup f_Case_failing = some ⟨oc_Case_failing, od_Case_failing, .func (PySem.W.fnOf "failing" "Case.failing" (defArgs s_Case_failing) (defBody s_Case_failing) (defScope s_Case_failing) .none kV_Case_failing dc_Case_failing pm_Case_failing an_Case_failing cd_Case_failing ct_Case_failing), sl_Case_failing⟩)
    (c_Case_failing : PySem.W.codeIn K cd_Case_failing "Case.failing" = true)
    (k_Case_failing : PySem.W.keepIn K (.ref f_Case_failing) = true)
    (a_House_init : PySem.W.findIn K (.ref aHouse) "__init__" = some (some (.ref f_House_init)))
    (i_House_init : PySem.W.isFn K (.ref f_House_init) = true)
    (l_House_init : K.lookup f_House_init = some ⟨oc_House_init, od_House_init, .func (PySem.W.fnOf "__init__" "House.__init__" (defArgs s_House_init) (defBody s_House_init) (defScope s_House_init) .none kV_House_init dc_House_init pm_House_init an_House_init cd_House_init ct_House_init), sl_House_init⟩)
    (c_House_init : PySem.W.codeIn K cd_House_init "House.__init__" = true)
    (k_House_init : PySem.W.keepIn K (.ref f_House_init) = true)
    (a_may_be_done : PySem.W.nsIn K mainGlobals "may_be_done" = some (some (.ref f_may_be_done)))
    (l_may_be_done : K.lookup f_may_be_done = some ⟨oc_may_be_done, od_may_be_done, .func (PySem.W.fnOf "may_be_done" "may_be_done" (defArgs s_may_be_done) (defBody s_may_be_done) (defScope s_may_be_done) .none kV_may_be_done dc_may_be_done pm_may_be_done an_may_be_done cd_may_be_done ct_may_be_done), sl_may_be_done⟩)
    (c_may_be_done : PySem.W.codeIn K cd_may_be_done "may_be_done" = true)
    (k_may_be_done : PySem.W.keepIn K (.ref f_may_be_done) = true)
    (a_behind : PySem.W.nsIn K mainGlobals "behind" = some (some (.ref f_behind)))
    (l_behind : K.lookup f_behind = some ⟨oc_behind, od_behind, .func (PySem.W.fnOf "behind" "behind" (defArgs s_behind) (defBody s_behind) (defScope s_behind) .none kV_behind dc_behind pm_behind an_behind cd_behind ct_behind), sl_behind⟩)
    (c_behind : PySem.W.codeIn K cd_behind "behind" = true)
    (k_behind : PySem.W.keepIn K (.ref f_behind) = true)
    (a_rows_of : PySem.W.nsIn K mainGlobals "rows_of" = some (some (.ref f_rows_of)))
    (l_rows_of : K.lookup f_rows_of = some ⟨oc_rows_of, od_rows_of, .func (PySem.W.fnOf "rows_of" "rows_of" (defArgs s_rows_of) (defBody s_rows_of) (defScope s_rows_of) .none kV_rows_of dc_rows_of pm_rows_of an_rows_of cd_rows_of ct_rows_of), sl_rows_of⟩)
    (c_rows_of : PySem.W.codeIn K cd_rows_of "rows_of" = true)
    (k_rows_of : PySem.W.keepIn K (.ref f_rows_of) = true)
    (a_members : PySem.W.nsIn K mainGlobals "members" = some (some (.ref f_members)))
    (l_members : K.lookup f_members = some ⟨oc_members, od_members, .func (PySem.W.fnOf "members" "members" (defArgs s_members) (defBody s_members) (defScope s_members) .none kV_members dc_members pm_members an_members cd_members ct_members), sl_members⟩)
    (c_members : PySem.W.codeIn K cd_members "members" = true)
    (k_members : PySem.W.keepIn K (.ref f_members) = true)
    (a_pairs_of : PySem.W.nsIn K mainGlobals "pairs_of" = some (some (.ref f_pairs_of)))
    (l_pairs_of : K.lookup f_pairs_of = some ⟨oc_pairs_of, od_pairs_of, .func (PySem.W.fnOf "pairs_of" "pairs_of" (defArgs s_pairs_of) (defBody s_pairs_of) (defScope s_pairs_of) .none kV_pairs_of dc_pairs_of pm_pairs_of an_pairs_of cd_pairs_of ct_pairs_of), sl_pairs_of⟩)
    (c_pairs_of : PySem.W.codeIn K cd_pairs_of "pairs_of" = true)
    (k_pairs_of : PySem.W.keepIn K (.ref f_pairs_of) = true)
    (a_told_pairs : PySem.W.nsIn K mainGlobals "told_pairs" = some (some (.ref f_told_pairs)))
    (l_told_pairs : K.lookup f_told_pairs = some ⟨oc_told_pairs, od_told_pairs, .func (PySem.W.fnOf "told_pairs" "told_pairs" (defArgs s_told_pairs) (defBody s_told_pairs) (defScope s_told_pairs) .none kV_told_pairs dc_told_pairs pm_told_pairs an_told_pairs cd_told_pairs ct_told_pairs), sl_told_pairs⟩)
    (c_told_pairs : PySem.W.codeIn K cd_told_pairs "told_pairs" = true)
    (k_told_pairs : PySem.W.keepIn K (.ref f_told_pairs) = true)
    (a_is_whole : PySem.W.nsIn K mainGlobals "is_whole" = some (some (.ref f_is_whole)))
    (l_is_whole : K.lookup f_is_whole = some ⟨oc_is_whole, od_is_whole, .func (PySem.W.fnOf "is_whole" "is_whole" (defArgs s_is_whole) (defBody s_is_whole) (defScope s_is_whole) .none kV_is_whole dc_is_whole pm_is_whole an_is_whole cd_is_whole ct_is_whole), sl_is_whole⟩)
    (c_is_whole : PySem.W.codeIn K cd_is_whole "is_whole" = true)
    (k_is_whole : PySem.W.keepIn K (.ref f_is_whole) = true)
    (a_all_orders : PySem.W.nsIn K mainGlobals "all_orders" = some (some (.ref f_all_orders)))
    (l_all_orders : K.lookup f_all_orders = some ⟨oc_all_orders, od_all_orders, .func (PySem.W.fnOf "all_orders" "all_orders" (defArgs s_all_orders) (defBody s_all_orders) (defScope s_all_orders) .none kV_all_orders dc_all_orders pm_all_orders an_all_orders cd_all_orders ct_all_orders), sl_all_orders⟩)
    (c_all_orders : PySem.W.codeIn K cd_all_orders "all_orders" = true)
    (k_all_orders : PySem.W.keepIn K (.ref f_all_orders) = true)
    (a_lets : PySem.W.nsIn K mainGlobals "lets" = some (some (.ref f_lets)))
    (l_lets : K.lookup f_lets = some ⟨oc_lets, od_lets, .func (PySem.W.fnOf "lets" "lets" (defArgs s_lets) (defBody s_lets) (defScope s_lets) .none kV_lets dc_lets pm_lets an_lets cd_lets ct_lets), sl_lets⟩)
    (c_lets : PySem.W.codeIn K cd_lets "lets" = true)
    (k_lets : PySem.W.keepIn K (.ref f_lets) = true)
    (a_working : PySem.W.nsIn K mainGlobals "working" = some (some (.ref f_working)))
    (l_working : K.lookup f_working = some ⟨oc_working, od_working, .func (PySem.W.fnOf "working" "working" (defArgs s_working) (defBody s_working) (defScope s_working) .none kV_working dc_working pm_working an_working cd_working ct_working), sl_working⟩)
    (c_working : PySem.W.codeIn K cd_working "working" = true)
    (k_working : PySem.W.keepIn K (.ref f_working) = true)
    (a_loosened : PySem.W.nsIn K mainGlobals "loosened" = some (some (.ref f_loosened)))
    (l_loosened : K.lookup f_loosened = some ⟨oc_loosened, od_loosened, .func (PySem.W.fnOf "loosened" "loosened" (defArgs s_loosened) (defBody s_loosened) (defScope s_loosened) .none kV_loosened dc_loosened pm_loosened an_loosened cd_loosened ct_loosened), sl_loosened⟩)
    (c_loosened : PySem.W.codeIn K cd_loosened "loosened" = true)
    (k_loosened : PySem.W.keepIn K (.ref f_loosened) = true)
    (a_ends_of : PySem.W.nsIn K mainGlobals "ends_of" = some (some (.ref f_ends_of)))
    (l_ends_of : K.lookup f_ends_of = some ⟨oc_ends_of, od_ends_of, .func (PySem.W.fnOf "ends_of" "ends_of" (defArgs s_ends_of) (defBody s_ends_of) (defScope s_ends_of) .none kV_ends_of dc_ends_of pm_ends_of an_ends_of cd_ends_of ct_ends_of), sl_ends_of⟩)
    (c_ends_of : PySem.W.codeIn K cd_ends_of "ends_of" = true)
    (k_ends_of : PySem.W.keepIn K (.ref f_ends_of) = true)
    (a_soonest : PySem.W.nsIn K mainGlobals "soonest" = some (some (.ref f_soonest)))
    (l_soonest : K.lookup f_soonest = some ⟨oc_soonest, od_soonest, .func (PySem.W.fnOf "soonest" "soonest" (defArgs s_soonest) (defBody s_soonest) (defScope s_soonest) .none kV_soonest dc_soonest pm_soonest an_soonest cd_soonest ct_soonest), sl_soonest⟩)
    (c_soonest : PySem.W.codeIn K cd_soonest "soonest" = true)
    (k_soonest : PySem.W.keepIn K (.ref f_soonest) = true)
    (a_first_failing : PySem.W.nsIn K mainGlobals "first_failing" = some (some (.ref f_first_failing)))
    (l_first_failing : K.lookup f_first_failing = some ⟨oc_first_failing, od_first_failing, .func (PySem.W.fnOf "first_failing" "first_failing" (defArgs s_first_failing) (defBody s_first_failing) (defScope s_first_failing) .none kV_first_failing dc_first_failing pm_first_failing an_first_failing cd_first_failing ct_first_failing), sl_first_failing⟩)
    (c_first_failing : PySem.W.codeIn K cd_first_failing "first_failing" = true)
    (k_first_failing : PySem.W.keepIn K (.ref f_first_failing) = true)
    (a_with_all_before : PySem.W.nsIn K mainGlobals "with_all_before" = some (some (.ref f_with_all_before)))
    (l_with_all_before : K.lookup f_with_all_before = some ⟨oc_with_all_before, od_with_all_before, .func (PySem.W.fnOf "with_all_before" "with_all_before" (defArgs s_with_all_before) (defBody s_with_all_before) (defScope s_with_all_before) .none kV_with_all_before dc_with_all_before pm_with_all_before an_with_all_before cd_with_all_before ct_with_all_before), sl_with_all_before⟩)
    (c_with_all_before : PySem.W.codeIn K cd_with_all_before "with_all_before" = true)
    (k_with_all_before : PySem.W.keepIn K (.ref f_with_all_before) = true)
    (a_begun : PySem.W.nsIn K mainGlobals "begun" = some (some (.ref f_begun)))
    (l_begun : K.lookup f_begun = some ⟨oc_begun, od_begun, .func (PySem.W.fnOf "begun" "begun" (defArgs s_begun) (defBody s_begun) (defScope s_begun) .none kV_begun dc_begun pm_begun an_begun cd_begun ct_begun), sl_begun⟩)
    (c_begun : PySem.W.codeIn K cd_begun "begun" = true)
    (k_begun : PySem.W.keepIn K (.ref f_begun) = true)
    (a_is_act : PySem.W.nsIn K mainGlobals "is_act" = some (some (.ref f_is_act)))
    (l_is_act : K.lookup f_is_act = some ⟨oc_is_act, od_is_act, .func (PySem.W.fnOf "is_act" "is_act" (defArgs s_is_act) (defBody s_is_act) (defScope s_is_act) .none kV_is_act dc_is_act pm_is_act an_is_act cd_is_act ct_is_act), sl_is_act⟩)
    (c_is_act : PySem.W.codeIn K cd_is_act "is_act" = true)
    (k_is_act : PySem.W.keepIn K (.ref f_is_act) = true)
    (a_act : PySem.W.nsIn K mainGlobals "act" = some (some (.ref f_act)))
    (l_act : K.lookup f_act = some ⟨oc_act, od_act, .func (PySem.W.fnOf "act" "act" (defArgs s_act) (defBody s_act) (defScope s_act) .none kV_act dc_act pm_act an_act cd_act ct_act), sl_act⟩)
    (c_act : PySem.W.codeIn K cd_act "act" = true)
    (k_act : PySem.W.keepIn K (.ref f_act) = true)
    (a_plan : PySem.W.nsIn K mainGlobals "plan" = some (some (.ref f_plan)))
    (l_plan : K.lookup f_plan = some ⟨oc_plan, od_plan, .func (PySem.W.fnOf "plan" "plan" (defArgs s_plan) (defBody s_plan) (defScope s_plan) .none kV_plan dc_plan pm_plan an_plan cd_plan ct_plan), sl_plan⟩)
    (c_plan : PySem.W.codeIn K cd_plan "plan" = true)
    (k_plan : PySem.W.keepIn K (.ref f_plan) = true)
    (a_loosen : PySem.W.nsIn K mainGlobals "loosen" = some (some (.ref f_loosen)))
    (l_loosen : K.lookup f_loosen = some ⟨oc_loosen, od_loosen, .func (PySem.W.fnOf "loosen" "loosen" (defArgs s_loosen) (defBody s_loosen) (defScope s_loosen) .none kV_loosen dc_loosen pm_loosen an_loosen cd_loosen ct_loosen), sl_loosen⟩)
    (c_loosen : PySem.W.codeIn K cd_loosen "loosen" = true)
    (k_loosen : PySem.W.keepIn K (.ref f_loosen) = true)
    (a_rows : PySem.W.nsIn K mainGlobals "rows" = some (some (.ref f_rows)))
    (l_rows : K.lookup f_rows = some ⟨oc_rows, od_rows, .func (PySem.W.fnOf "rows" "rows" (defArgs s_rows) (defBody s_rows) (defScope s_rows) .none kV_rows dc_rows pm_rows an_rows cd_rows ct_rows), sl_rows⟩)
    (c_rows : PySem.W.codeIn K cd_rows "rows" = true)
    (k_rows : PySem.W.keepIn K (.ref f_rows) = true)
    (a_failing_told : PySem.W.nsIn K mainGlobals "failing_told" = some (some (.ref f_failing_told)))
    (l_failing_told : K.lookup f_failing_told = some ⟨oc_failing_told, od_failing_told, .func (PySem.W.fnOf "failing_told" "failing_told" (defArgs s_failing_told) (defBody s_failing_told) (defScope s_failing_told) .none kV_failing_told dc_failing_told pm_failing_told an_failing_told cd_failing_told ct_failing_told), sl_failing_told⟩)
    (c_failing_told : PySem.W.codeIn K cd_failing_told "failing_told" = true)
    (k_failing_told : PySem.W.keepIn K (.ref f_failing_told) = true)
    (a_is_near_pair : PySem.W.nsIn K mainGlobals "is_near_pair" = some (some (.ref f_is_near_pair)))
    (l_is_near_pair : K.lookup f_is_near_pair = some ⟨oc_is_near_pair, od_is_near_pair, .func (PySem.W.fnOf "is_near_pair" "is_near_pair" (defArgs s_is_near_pair) (defBody s_is_near_pair) (defScope s_is_near_pair) .none kV_is_near_pair dc_is_near_pair pm_is_near_pair an_is_near_pair cd_is_near_pair ct_is_near_pair), sl_is_near_pair⟩)
    (c_is_near_pair : PySem.W.codeIn K cd_is_near_pair "is_near_pair" = true)
    (k_is_near_pair : PySem.W.keepIn K (.ref f_is_near_pair) = true)
    (a_why : PySem.W.nsIn K mainGlobals "why" = some (some (.ref f_why)))
    (l_why : K.lookup f_why = some ⟨oc_why, od_why, .func (PySem.W.fnOf "why" "why" (defArgs s_why) (defBody s_why) (defScope s_why) .none kV_why dc_why pm_why an_why cd_why ct_why), sl_why⟩)
    (c_why : PySem.W.codeIn K cd_why "why" = true)
    (k_why : PySem.W.keepIn K (.ref f_why) = true)
    (a_soonest_told : PySem.W.nsIn K mainGlobals "soonest_told" = some (some (.ref f_soonest_told)))
    (l_soonest_told : K.lookup f_soonest_told = some ⟨oc_soonest_told, od_soonest_told, .func (PySem.W.fnOf "soonest_told" "soonest_told" (defArgs s_soonest_told) (defBody s_soonest_told) (defScope s_soonest_told) .none kV_soonest_told dc_soonest_told pm_soonest_told an_soonest_told cd_soonest_told ct_soonest_told), sl_soonest_told⟩)
    (c_soonest_told : PySem.W.codeIn K cd_soonest_told "soonest_told" = true)
    (k_soonest_told : PySem.W.keepIn K (.ref f_soonest_told) = true)
    (a_check : PySem.W.nsIn K mainGlobals "check" = some (some (.ref f_check)))
    (l_check : K.lookup f_check = some ⟨oc_check, od_check, .func (PySem.W.fnOf "check" "check" (defArgs s_check) (defBody s_check) (defScope s_check) .none kV_check dc_check pm_check an_check cd_check ct_check), sl_check⟩)
    (c_check : PySem.W.codeIn K cd_check "check" = true)
    (k_check : PySem.W.keepIn K (.ref f_check) = true)
    (a_answer : PySem.W.nsIn K mainGlobals "answer" = some (some (.ref f_answer)))
    (l_answer : K.lookup f_answer = some ⟨oc_answer, od_answer, .func (PySem.W.fnOf "answer" "answer" (defArgs s_answer) (defBody s_answer) (defScope s_answer) .none kV_answer dc_answer pm_answer an_answer cd_answer ct_answer), sl_answer⟩)
    (c_answer : PySem.W.codeIn K cd_answer "answer" = true)
    (k_answer : PySem.W.keepIn K (.ref f_answer) = true)
    (a_answers : PySem.W.nsIn K mainGlobals "answers" = some (some (.ref f_answers)))
    (l_answers : K.lookup f_answers = some ⟨oc_answers, od_answers, .func (PySem.W.fnOf "answers" "answers" (defArgs s_answers) (defBody s_answers) (defScope s_answers) .none kV_answers dc_answers pm_answers an_answers cd_answers ct_answers), sl_answers⟩)
    (c_answers : PySem.W.codeIn K cd_answers "answers" = true)
    (k_answers : PySem.W.keepIn K (.ref f_answers) = true)
    (pg_Case : PySem.W.plainGet K aCase Str.empty = true)
    (hd_Case : PySem.W.hasDictIn K aCase = true)
    (po_Case : PySem.W.plainOver K aCase = true)
    (sa_Case : PySem.W.findIn K (.ref aCase) "__setattr__" = some (some (.builtin "object.__setattr__")))
    (mk_Case : PySem.W.makesIn K aCase = true)
    (kc_Case : PySem.W.keepIn K (.ref aCase) = true)
    (n_Case_steps : PySem.W.findIn K (.ref aCase) "steps" = some none)
    (n_Case_so : PySem.W.findIn K (.ref aCase) "so" = some none)
    (n_Case_wanted : PySem.W.findIn K (.ref aCase) "wanted" = some none)
    (pg_House : PySem.W.plainGet K aHouse Str.empty = true)
    (hd_House : PySem.W.hasDictIn K aHouse = true)
    (po_House : PySem.W.plainOver K aHouse = true)
    (sa_House : PySem.W.findIn K (.ref aHouse) "__setattr__" = some (some (.builtin "object.__setattr__")))
    (mk_House : PySem.W.makesIn K aHouse = true)
    (kc_House : PySem.W.keepIn K (.ref aHouse) = true)
    (n_House_facts : PySem.W.findIn K (.ref aHouse) "facts" = some none)
    (n_House_so : PySem.W.findIn K (.ref aHouse) "so" = some none)
    (n_House_wanted : PySem.W.findIn K (.ref aHouse) "wanted" = some none)
    (n_House_acts : PySem.W.findIn K (.ref aHouse) "acts" = some none)
    (n_House_case : PySem.W.findIn K (.ref aHouse) "case" = some none)
    (n_House_order : PySem.W.findIn K (.ref aHouse) "order" = some none)
    (v_WRONG : PySem.W.nsIn K mainGlobals "WRONG" = some (some (.int (-1) t_WRONG)))
    (v_NO_PAIR : PySem.W.nsIn K mainGlobals "NO_PAIR" = some (some (.int (-2) t_NO_PAIR)))
    (v_NO_PLAN : PySem.W.nsIn K mainGlobals "NO_PLAN" = some (some (.int (-5) t_NO_PLAN)))
    (v_TOO_MANY : PySem.W.nsIn K mainGlobals "TOO_MANY" = some (some (.int (-7) t_TOO_MANY)))
    (v_MOST_FACTS : PySem.W.nsIn K mainGlobals "MOST_FACTS" = some (some (.int (8) t_MOST_FACTS)))
    (v_MOST_ACTS : PySem.W.nsIn K mainGlobals "MOST_ACTS" = some (some (.int (12) t_MOST_ACTS)))
    (v_MOST_STEPS : PySem.W.nsIn K mainGlobals "MOST_STEPS" = some (some (.int (5) t_MOST_STEPS)))
    (v_MOST_COST : PySem.W.nsIn K mainGlobals "MOST_COST" = some (some (.int (1000) t_MOST_COST)))
    (v_NUMBERS_OF_ACT : PySem.W.nsIn K mainGlobals "NUMBERS_OF_ACT" = some (some (.int (5) t_NUMBERS_OF_ACT)))
    (v_BEGINS : PySem.W.nsIn K mainGlobals "BEGINS" = some (some (.int (0) t_BEGINS)))
    (v_NUMBERS : PySem.W.nsIn K mainGlobals "NUMBERS" = some (some (.ref q_NUMBERS)))
    (w_NUMBERS : K.lookup q_NUMBERS = some ⟨.type "tuple", dq_NUMBERS, .seq #[.int 3 t_NUMBERS_0, .int 0 t_NUMBERS_1, .int 0 t_NUMBERS_2, .int 0 t_NUMBERS_3, .int 0 t_NUMBERS_4, .int 2 t_NUMBERS_5, .int 0 t_NUMBERS_6, .int 0 t_NUMBERS_7] nq_NUMBERS, sq_NUMBERS⟩)
    (v_WITH_ROW : PySem.W.nsIn K mainGlobals "WITH_ROW" = some (some (.ref q_WITH_ROW)))
    (w_WITH_ROW : K.lookup q_WITH_ROW = some ⟨.type "tuple", dq_WITH_ROW, .seq #[.int 1 t_WITH_ROW_0, .int 2 t_WITH_ROW_1, .int 6 t_WITH_ROW_2, .int 7 t_WITH_ROW_3] nq_WITH_ROW, sq_WITH_ROW⟩)
    (z_enumerate : PySem.W.nsIn K mainGlobals "enumerate" = some none)
    (z_len : PySem.W.nsIn K mainGlobals "len" = some none)
    (z_list : PySem.W.nsIn K mainGlobals "list" = some none)
    (z_range : PySem.W.nsIn K mainGlobals "range" = some none)
    (z_sum : PySem.W.nsIn K mainGlobals "sum" = some none)
    (z_all : PySem.W.nsIn K mainGlobals "all" = some none)
    (z_any : PySem.W.nsIn K mainGlobals "any" = some none)
    (z_min : PySem.W.nsIn K mainGlobals "min" = some none)
    (z_max : PySem.W.nsIn K mainGlobals "max" = some none)
    (z_zip : PySem.W.nsIn K mainGlobals "zip" = some none)
    (z_tuple : PySem.W.nsIn K mainGlobals "tuple" = some none)
    : ∃ T : All K mg, T.answers.f = fa ∧ ∀ (s : Shared) (us : List Value), us.length = (["calls"] : List Str).length → BindsTo s T.answers.fd ⟨us, []⟩ ((["calls"] : List Str).zip us) := by
  have e : f_answers = fa := by have e1 := hfa.symm.trans (PySem.W.mg_of X G a_answers); injection e1 with e1; injection e1 with e1; exact e1.symm
  refine ⟨{
    Case := aCase
    g_Case := PySem.W.mg_of X G aC_Case
    cl_Case := ⟨pg_Case, hd_Case, po_Case, sa_Case⟩
    na_Case_steps := n_Case_steps
    na_Case_so := n_Case_so
    na_Case_wanted := n_Case_wanted
    House := aHouse
    g_House := PySem.W.mg_of X G aC_House
    cl_House := ⟨pg_House, hd_House, po_House, sa_House⟩
    na_House_facts := n_House_facts
    na_House_so := n_House_so
    na_House_wanted := n_House_wanted
    na_House_acts := n_House_acts
    na_House_case := n_House_case
    na_House_order := n_House_order
    Case_init := ⟨f_Case_init, _, fun_mk (st := s_Case_init) l_Case_init c_Case_init k_Case_init, (fun_mk l_Case_init c_Case_init k_Case_init).binds (ps := ["self", "steps", "so", "wanted"]) fun _ _ _ _ _ _ us hl => match us, hl with | [_, _, _, _], _ => rfl, ⟨a_Case_init, i_Case_init, k_Case_init⟩⟩
    Case_tried := ⟨f_Case_tried, _, fun_mk (st := s_Case_tried) l_Case_tried c_Case_tried k_Case_tried, (fun_mk l_Case_tried c_Case_tried k_Case_tried).binds (ps := ["self", "row"]) fun _ _ _ _ _ _ us hl => match us, hl with | [_, _], _ => rfl, ⟨a_Case_tried, i_Case_tried, k_Case_tried⟩⟩
    Case_fails := ⟨f_Case_fails, _, fun_mk (st := s_Case_fails) l_Case_fails c_Case_fails k_Case_fails, (fun_mk l_Case_fails c_Case_fails k_Case_fails).binds (ps := ["self", "row"]) fun _ _ _ _ _ _ us hl => match us, hl with | [_, _], _ => rfl, ⟨a_Case_fails, i_Case_fails, k_Case_fails⟩⟩
    Case_all_steps := ⟨f_Case_all_steps, _, fun_mk (st := s_Case_all_steps) l_Case_all_steps c_Case_all_steps k_Case_all_steps, (fun_mk l_Case_all_steps c_Case_all_steps k_Case_all_steps).binds (ps := ["self"]) fun _ _ _ _ _ _ us hl => match us, hl with | [_], _ => rfl, ⟨a_Case_all_steps, i_Case_all_steps, k_Case_all_steps⟩⟩
    Case_failing := ⟨f_Case_failing, _, fun_mk (st := s_Case_failing) l_Case_failing c_Case_failing k_Case_failing, (fun_mk l_Case_failing c_Case_failing k_Case_failing).binds (ps := ["self"]) fun _ _ _ _ _ _ us hl => match us, hl with | [_], _ => rfl, ⟨a_Case_failing, i_Case_failing, k_Case_failing⟩⟩
    House_init := ⟨f_House_init, _, fun_mk (st := s_House_init) l_House_init c_House_init k_House_init, (fun_mk l_House_init c_House_init k_House_init).binds (ps := ["self", "facts", "so", "wanted"]) fun _ _ _ _ _ _ us hl => match us, hl with | [_, _, _, _], _ => rfl, ⟨a_House_init, i_House_init, k_House_init⟩⟩
    mk_Case := ⟨mk_Case, a_Case_init, i_Case_init, kc_Case⟩
    mk_House := ⟨mk_House, a_House_init, i_House_init, kc_House⟩
    may_be_done := ⟨f_may_be_done, _, PySem.W.mg_of X G a_may_be_done, fun_mk (st := s_may_be_done) l_may_be_done c_may_be_done k_may_be_done, (fun_mk l_may_be_done c_may_be_done k_may_be_done).binds (ps := ["act", "state"]) fun _ _ _ _ _ _ us hl => match us, hl with | [_, _], _ => rfl⟩
    behind := ⟨f_behind, _, PySem.W.mg_of X G a_behind, fun_mk (st := s_behind) l_behind c_behind k_behind, (fun_mk l_behind c_behind k_behind).binds (ps := ["act", "state"]) fun _ _ _ _ _ _ us hl => match us, hl with | [_, _], _ => rfl⟩
    rows_of := ⟨f_rows_of, _, PySem.W.mg_of X G a_rows_of, fun_mk (st := s_rows_of) l_rows_of c_rows_of k_rows_of, (fun_mk l_rows_of c_rows_of k_rows_of).binds (ps := ["order"]) fun _ _ _ _ _ _ us hl => match us, hl with | [_], _ => rfl⟩
    members := ⟨f_members, _, PySem.W.mg_of X G a_members, fun_mk (st := s_members) l_members c_members k_members, (fun_mk l_members c_members k_members).binds (ps := ["some", "many"]) fun _ _ _ _ _ _ us hl => match us, hl with | [_, _], _ => rfl⟩
    pairs_of := ⟨f_pairs_of, _, PySem.W.mg_of X G a_pairs_of, fun_mk (st := s_pairs_of) l_pairs_of c_pairs_of k_pairs_of, (fun_mk l_pairs_of c_pairs_of k_pairs_of).binds (ps := ["order"]) fun _ _ _ _ _ _ us hl => match us, hl with | [_], _ => rfl⟩
    told_pairs := ⟨f_told_pairs, _, PySem.W.mg_of X G a_told_pairs, fun_mk (st := s_told_pairs) l_told_pairs c_told_pairs k_told_pairs, (fun_mk l_told_pairs c_told_pairs k_told_pairs).binds (ps := ["order"]) fun _ _ _ _ _ _ us hl => match us, hl with | [_], _ => rfl⟩
    is_whole := ⟨f_is_whole, _, PySem.W.mg_of X G a_is_whole, fun_mk (st := s_is_whole) l_is_whole c_is_whole k_is_whole, (fun_mk l_is_whole c_is_whole k_is_whole).binds (ps := ["order", "some"]) fun _ _ _ _ _ _ us hl => match us, hl with | [_, _], _ => rfl⟩
    all_orders := ⟨f_all_orders, _, PySem.W.mg_of X G a_all_orders, fun_mk (st := s_all_orders) l_all_orders c_all_orders k_all_orders, (fun_mk l_all_orders c_all_orders k_all_orders).binds (ps := ["many"]) fun _ _ _ _ _ _ us hl => match us, hl with | [_], _ => rfl⟩
    lets := ⟨f_lets, _, PySem.W.mg_of X G a_lets, fun_mk (st := s_lets) l_lets c_lets k_lets, (fun_mk l_lets c_lets k_lets).binds (ps := ["order", "row"]) fun _ _ _ _ _ _ us hl => match us, hl with | [_, _], _ => rfl⟩
    working := ⟨f_working, _, PySem.W.mg_of X G a_working, fun_mk (st := s_working) l_working c_working k_working, (fun_mk l_working c_working k_working).binds (ps := ["case"]) fun _ _ _ _ _ _ us hl => match us, hl with | [_], _ => rfl⟩
    loosened := ⟨f_loosened, _, PySem.W.mg_of X G a_loosened, fun_mk (st := s_loosened) l_loosened c_loosened k_loosened, (fun_mk l_loosened c_loosened k_loosened).binds (ps := ["case"]) fun _ _ _ _ _ _ us hl => match us, hl with | [_], _ => rfl⟩
    ends_of := ⟨f_ends_of, _, PySem.W.mg_of X G a_ends_of, fun_mk (st := s_ends_of) l_ends_of c_ends_of k_ends_of, (fun_mk l_ends_of c_ends_of k_ends_of).binds (ps := ["order", "each"]) fun _ _ _ _ _ _ us hl => match us, hl with | [_, _], _ => rfl⟩
    soonest := ⟨f_soonest, _, PySem.W.mg_of X G a_soonest, fun_mk (st := s_soonest) l_soonest c_soonest k_soonest, (fun_mk l_soonest c_soonest k_soonest).binds (ps := ["case", "each"]) fun _ _ _ _ _ _ us hl => match us, hl with | [_, _], _ => rfl⟩
    first_failing := ⟨f_first_failing, _, PySem.W.mg_of X G a_first_failing, fun_mk (st := s_first_failing) l_first_failing c_first_failing k_first_failing, (fun_mk l_first_failing c_first_failing k_first_failing).binds (ps := ["case", "order"]) fun _ _ _ _ _ _ us hl => match us, hl with | [_, _], _ => rfl⟩
    with_all_before := ⟨f_with_all_before, _, PySem.W.mg_of X G a_with_all_before, fun_mk (st := s_with_all_before) l_with_all_before c_with_all_before k_with_all_before, (fun_mk l_with_all_before c_with_all_before k_with_all_before).binds (ps := ["order"]) fun _ _ _ _ _ _ us hl => match us, hl with | [_], _ => rfl⟩
    begun := ⟨f_begun, _, PySem.W.mg_of X G a_begun, fun_mk (st := s_begun) l_begun c_begun k_begun, (fun_mk l_begun c_begun k_begun).binds (ps := ["facts", "so", "wanted"]) fun _ _ _ _ _ _ us hl => match us, hl with | [_, _, _], _ => rfl⟩
    is_act := ⟨f_is_act, _, PySem.W.mg_of X G a_is_act, fun_mk (st := s_is_act) l_is_act c_is_act k_is_act, (fun_mk l_is_act c_is_act k_is_act).binds (ps := ["house", "told"]) fun _ _ _ _ _ _ us hl => match us, hl with | [_, _], _ => rfl⟩
    act := ⟨f_act, _, PySem.W.mg_of X G a_act, fun_mk (st := s_act) l_act c_act k_act, (fun_mk l_act c_act k_act).binds (ps := ["house", "told"]) fun _ _ _ _ _ _ us hl => match us, hl with | [_, _], _ => rfl⟩
    plan := ⟨f_plan, _, PySem.W.mg_of X G a_plan, fun_mk (st := s_plan) l_plan c_plan k_plan, (fun_mk l_plan c_plan k_plan).binds (ps := ["house", "acts"]) fun _ _ _ _ _ _ us hl => match us, hl with | [_, _], _ => rfl⟩
    loosen := ⟨f_loosen, _, PySem.W.mg_of X G a_loosen, fun_mk (st := s_loosen) l_loosen c_loosen k_loosen, (fun_mk l_loosen c_loosen k_loosen).binds (ps := ["house"]) fun _ _ _ _ _ _ us hl => match us, hl with | [_], _ => rfl⟩
    rows := ⟨f_rows, _, PySem.W.mg_of X G a_rows, fun_mk (st := s_rows) l_rows c_rows k_rows, (fun_mk l_rows c_rows k_rows).binds (ps := ["house"]) fun _ _ _ _ _ _ us hl => match us, hl with | [_], _ => rfl⟩
    failing_told := ⟨f_failing_told, _, PySem.W.mg_of X G a_failing_told, fun_mk (st := s_failing_told) l_failing_told c_failing_told k_failing_told, (fun_mk l_failing_told c_failing_told k_failing_told).binds (ps := ["case", "order"]) fun _ _ _ _ _ _ us hl => match us, hl with | [_, _], _ => rfl⟩
    is_near_pair := ⟨f_is_near_pair, _, PySem.W.mg_of X G a_is_near_pair, fun_mk (st := s_is_near_pair) l_is_near_pair c_is_near_pair k_is_near_pair, (fun_mk l_is_near_pair c_is_near_pair k_is_near_pair).binds (ps := ["order", "step", "later"]) fun _ _ _ _ _ _ us hl => match us, hl with | [_, _, _], _ => rfl⟩
    why := ⟨f_why, _, PySem.W.mg_of X G a_why, fun_mk (st := s_why) l_why c_why k_why, (fun_mk l_why c_why k_why).binds (ps := ["house", "step", "later"]) fun _ _ _ _ _ _ us hl => match us, hl with | [_, _, _], _ => rfl⟩
    soonest_told := ⟨f_soonest_told, _, PySem.W.mg_of X G a_soonest_told, fun_mk (st := s_soonest_told) l_soonest_told c_soonest_told k_soonest_told, (fun_mk l_soonest_told c_soonest_told k_soonest_told).binds (ps := ["house", "each"]) fun _ _ _ _ _ _ us hl => match us, hl with | [_, _], _ => rfl⟩
    check := ⟨f_check, _, PySem.W.mg_of X G a_check, fun_mk (st := s_check) l_check c_check k_check, (fun_mk l_check c_check k_check).binds (ps := ["house", "pairs"]) fun _ _ _ _ _ _ us hl => match us, hl with | [_, _], _ => rfl⟩
    answer := ⟨f_answer, _, PySem.W.mg_of X G a_answer, fun_mk (st := s_answer) l_answer c_answer k_answer, (fun_mk l_answer c_answer k_answer).binds (ps := ["house", "call", "told", "row"]) fun _ _ _ _ _ _ us hl => match us, hl with | [_, _, _, _], _ => rfl⟩
    answers := ⟨f_answers, _, PySem.W.mg_of X G a_answers, fun_mk (st := s_answers) l_answers c_answers k_answers, (fun_mk l_answers c_answers k_answers).binds (ps := ["calls"]) fun _ _ _ _ _ _ us hl => match us, hl with | [_], _ => rfl⟩
    c_WRONG := ⟨_, PySem.W.mg_of X G v_WRONG⟩
    c_NO_PAIR := ⟨_, PySem.W.mg_of X G v_NO_PAIR⟩
    c_NO_PLAN := ⟨_, PySem.W.mg_of X G v_NO_PLAN⟩
    c_TOO_MANY := ⟨_, PySem.W.mg_of X G v_TOO_MANY⟩
    c_MOST_FACTS := ⟨_, PySem.W.mg_of X G v_MOST_FACTS⟩
    c_MOST_ACTS := ⟨_, PySem.W.mg_of X G v_MOST_ACTS⟩
    c_MOST_STEPS := ⟨_, PySem.W.mg_of X G v_MOST_STEPS⟩
    c_MOST_COST := ⟨_, PySem.W.mg_of X G v_MOST_COST⟩
    c_NUMBERS_OF_ACT := ⟨_, PySem.W.mg_of X G v_NUMBERS_OF_ACT⟩
    c_BEGINS := ⟨_, PySem.W.mg_of X G v_BEGINS⟩
    c_NUMBERS := ⟨_, PySem.W.mg_of X G v_NUMBERS, fun H => .inr ⟨_, _, _, w_NUMBERS, rfl, rfl, (by show 8 ≤ sizeLine; decide), .cons ⟨_, rfl⟩ (.cons ⟨_, rfl⟩ (.cons ⟨_, rfl⟩ (.cons ⟨_, rfl⟩ (.cons ⟨_, rfl⟩ (.cons ⟨_, rfl⟩ (.cons ⟨_, rfl⟩ (.cons ⟨_, rfl⟩ (.nil))))))))⟩⟩
    c_WITH_ROW := ⟨_, PySem.W.mg_of X G v_WITH_ROW, fun H => .inr ⟨_, _, _, w_WITH_ROW, rfl, rfl, (by show 4 ≤ sizeLine; decide), .cons ⟨_, rfl⟩ (.cons ⟨_, rfl⟩ (.cons ⟨_, rfl⟩ (.cons ⟨_, rfl⟩ (.nil))))⟩⟩
    z_enumerate := PySem.W.mg_none_of X G z_enumerate
    z_len := PySem.W.mg_none_of X G z_len
    z_list := PySem.W.mg_none_of X G z_list
    z_range := PySem.W.mg_none_of X G z_range
    z_sum := PySem.W.mg_none_of X G z_sum
    z_all := PySem.W.mg_none_of X G z_all
    z_any := PySem.W.mg_none_of X G z_any
    z_min := PySem.W.mg_none_of X G z_min
    z_max := PySem.W.mg_none_of X G z_max
    z_zip := PySem.W.mg_none_of X G z_zip
    z_tuple := PySem.W.mg_none_of X G z_tuple
  }, e, fun s us hu => match us, hu with | [_], _ => .of_eq rfl⟩

theorem fin_of {P : Program} {w : World} {K : PySem.W.Frag} {mg : Str → Option Value} {fa : Addr} 
    (h : ∃ T : All K mg, T.answers.f = fa ∧ ∀ (s : Shared) (us : List Value), us.length = (["calls"] : List Str).length → BindsTo s T.answers.fd ⟨us, []⟩ ((["calls"] : List Str).zip us)) :
    ∃ fd : FuncData, (∀ (s : Shared) (us : List Value), us.length = (["calls"] : List Str).length → BindsTo s fd ⟨us, []⟩ ((["calls"] : List Str).zip us)) ∧ ∀ base : Heap, K.In base → base.Ns mainGlobals mg → FnOk P w K mg base CX0 10 fa fd ["calls"] (spAns K) := by
  obtain ⟨T, e, hb⟩ := h
  subst e
  exact ⟨T.answers.fd, hb, fun base _ _ => ok_answers T⟩
end Lp
open PySem PySem.W PyProof.Rows
set_option maxRecDepth 100000 in
set_option maxHeartbeats 8000000 in
theorem PySem.Challenge.cw_loosenedplans_s01_answers_holds : PySem.Challenge.rw_loosenedplans_s01_answers.Holds := by
  w_on; k_headS; (case hw => exact ⟨[.list [.int 3]], by decide +kernel, by decide +kernel⟩)
  k_fillS
  refine L2.walk_specK (r := PySem.Challenge.rw_loosenedplans_s01_answers) (k := 10) (CX := L2.CX0) (ps := ["calls"]) (sp := Lp.spAns) (by decide +kernel) rfl rfl ⟨rfl, by decide, by decide⟩ (fun w h Y => PySem.W.kIn_of Y) ?F ?S (fun _ _ _ _ z => z)
  case F =>
    intro w mg fa h Y KX G hmg

    refine' Lp.fin_of  (Lp.all_mk (w := w) (P := PySem.Challenge.pw_loosenedplans_s01_answers) KX G hmg ?aC_Case ?aC_House ?a_Case_init ?i_Case_init ?l_Case_init ?c_Case_init ?k_Case_init ?a_Case_tried ?i_Case_tried ?l_Case_tried ?c_Case_tried ?k_Case_tried ?a_Case_fails ?i_Case_fails ?l_Case_fails ?c_Case_fails ?k_Case_fails ?a_Case_all_steps ?i_Case_all_steps ?l_Case_all_steps ?c_Case_all_steps ?k_Case_all_steps ?a_Case_failing ?i_Case_failing ?l_Case_failing ?c_Case_failing ?k_Case_failing ?a_House_init ?i_House_init ?l_House_init ?c_House_init ?k_House_init ?a_may_be_done ?l_may_be_done ?c_may_be_done ?k_may_be_done ?a_behind ?l_behind ?c_behind ?k_behind ?a_rows_of ?l_rows_of ?c_rows_of ?k_rows_of ?a_members ?l_members ?c_members ?k_members ?a_pairs_of ?l_pairs_of ?c_pairs_of ?k_pairs_of ?a_told_pairs ?l_told_pairs ?c_told_pairs ?k_told_pairs ?a_is_whole ?l_is_whole ?c_is_whole ?k_is_whole ?a_all_orders ?l_all_orders ?c_all_orders ?k_all_orders ?a_lets ?l_lets ?c_lets ?k_lets ?a_working ?l_working ?c_working ?k_working ?a_loosened ?l_loosened ?c_loosened ?k_loosened ?a_ends_of ?l_ends_of ?c_ends_of ?k_ends_of ?a_soonest ?l_soonest ?c_soonest ?k_soonest ?a_first_failing ?l_first_failing ?c_first_failing ?k_first_failing ?a_with_all_before ?l_with_all_before ?c_with_all_before ?k_with_all_before ?a_begun ?l_begun ?c_begun ?k_begun ?a_is_act ?l_is_act ?c_is_act ?k_is_act ?a_act ?l_act ?c_act ?k_act ?a_plan ?l_plan ?c_plan ?k_plan ?a_loosen ?l_loosen ?c_loosen ?k_loosen ?a_rows ?l_rows ?c_rows ?k_rows ?a_failing_told ?l_failing_told ?c_failing_told ?k_failing_told ?a_is_near_pair ?l_is_near_pair ?c_is_near_pair ?k_is_near_pair ?a_why ?l_why ?c_why ?k_why ?a_soonest_told ?l_soonest_told ?c_soonest_told ?k_soonest_told ?a_check ?l_check ?c_check ?k_check ?a_answer ?l_answer ?c_answer ?k_answer ?a_answers ?l_answers ?c_answers ?k_answers ?pg_Case ?hd_Case ?po_Case ?sa_Case ?mk_Case ?kc_Case ?n_Case_steps ?n_Case_so ?n_Case_wanted ?pg_House ?hd_House ?po_House ?sa_House ?mk_House ?kc_House ?n_House_facts ?n_House_so ?n_House_wanted ?n_House_acts ?n_House_case ?n_House_order ?v_WRONG ?v_NO_PAIR ?v_NO_PLAN ?v_TOO_MANY ?v_MOST_FACTS ?v_MOST_ACTS ?v_MOST_STEPS ?v_MOST_COST ?v_NUMBERS_OF_ACT ?v_BEGINS ?v_NUMBERS ?w_NUMBERS ?v_WITH_ROW ?w_WITH_ROW ?z_enumerate ?z_len ?z_list ?z_range ?z_sum ?z_all ?z_any ?z_min ?z_max ?z_zip ?z_tuple)
    (case aC_Case => k_is)
    (case aC_House => k_is)
    (case a_Case_init => k_is)
    (case i_Case_init => k_is)
    (case l_Case_init => k_is)
    (case c_Case_init => k_is)
    (case k_Case_init => k_is)
    (case a_Case_tried => k_is)
    (case i_Case_tried => k_is)
    (case l_Case_tried => k_is)
    (case c_Case_tried => k_is)
    (case k_Case_tried => k_is)
    (case a_Case_fails => k_is)
    (case i_Case_fails => k_is)
    (case l_Case_fails => k_is)
    (case c_Case_fails => k_is)
    (case k_Case_fails => k_is)
    (case a_Case_all_steps => k_is)
    (case i_Case_all_steps => k_is)
    (case l_Case_all_steps => k_is)
    (case c_Case_all_steps => k_is)
    (case k_Case_all_steps => k_is)
    (case a_Case_failing => k_is)
    (case i_Case_failing => k_is)
    (case l_Case_failing => k_is)
    (case c_Case_failing => k_is)
    (case k_Case_failing => k_is)
    (case a_House_init => k_is)
    (case i_House_init => k_is)
    (case l_House_init => k_is)
    (case c_House_init => k_is)
    (case k_House_init => k_is)
    (case a_may_be_done => k_is)
    (case l_may_be_done => k_is)
    (case c_may_be_done => k_is)
    (case k_may_be_done => k_is)
    (case a_behind => k_is)
    (case l_behind => k_is)
    (case c_behind => k_is)
    (case k_behind => k_is)
    (case a_rows_of => k_is)
    (case l_rows_of => k_is)
    (case c_rows_of => k_is)
    (case k_rows_of => k_is)
    (case a_members => k_is)
    (case l_members => k_is)
    (case c_members => k_is)
    (case k_members => k_is)
    (case a_pairs_of => k_is)
    (case l_pairs_of => k_is)
    (case c_pairs_of => k_is)
    (case k_pairs_of => k_is)
    (case a_told_pairs => k_is)
    (case l_told_pairs => k_is)
    (case c_told_pairs => k_is)
    (case k_told_pairs => k_is)
    (case a_is_whole => k_is)
    (case l_is_whole => k_is)
    (case c_is_whole => k_is)
    (case k_is_whole => k_is)
    (case a_all_orders => k_is)
    (case l_all_orders => k_is)
    (case c_all_orders => k_is)
    (case k_all_orders => k_is)
    (case a_lets => k_is)
    (case l_lets => k_is)
    (case c_lets => k_is)
    (case k_lets => k_is)
    (case a_working => k_is)
    (case l_working => k_is)
    (case c_working => k_is)
    (case k_working => k_is)
    (case a_loosened => k_is)
    (case l_loosened => k_is)
    (case c_loosened => k_is)
    (case k_loosened => k_is)
    (case a_ends_of => k_is)
    (case l_ends_of => k_is)
    (case c_ends_of => k_is)
    (case k_ends_of => k_is)
    (case a_soonest => k_is)
    (case l_soonest => k_is)
    (case c_soonest => k_is)
    (case k_soonest => k_is)
    (case a_first_failing => k_is)
    (case l_first_failing => k_is)
    (case c_first_failing => k_is)
    (case k_first_failing => k_is)
    (case a_with_all_before => k_is)
    (case l_with_all_before => k_is)
    (case c_with_all_before => k_is)
    (case k_with_all_before => k_is)
    (case a_begun => k_is)
    (case l_begun => k_is)
    (case c_begun => k_is)
    (case k_begun => k_is)
    (case a_is_act => k_is)
    (case l_is_act => k_is)
    (case c_is_act => k_is)
    (case k_is_act => k_is)
    (case a_act => k_is)
    (case l_act => k_is)
    (case c_act => k_is)
    (case k_act => k_is)
    (case a_plan => k_is)
    (case l_plan => k_is)
    (case c_plan => k_is)
    (case k_plan => k_is)
    (case a_loosen => k_is)
    (case l_loosen => k_is)
    (case c_loosen => k_is)
    (case k_loosen => k_is)
    (case a_rows => k_is)
    (case l_rows => k_is)
    (case c_rows => k_is)
    (case k_rows => k_is)
    (case a_failing_told => k_is)
    (case l_failing_told => k_is)
    (case c_failing_told => k_is)
    (case k_failing_told => k_is)
    (case a_is_near_pair => k_is)
    (case l_is_near_pair => k_is)
    (case c_is_near_pair => k_is)
    (case k_is_near_pair => k_is)
    (case a_why => k_is)
    (case l_why => k_is)
    (case c_why => k_is)
    (case k_why => k_is)
    (case a_soonest_told => k_is)
    (case l_soonest_told => k_is)
    (case c_soonest_told => k_is)
    (case k_soonest_told => k_is)
    (case a_check => k_is)
    (case l_check => k_is)
    (case c_check => k_is)
    (case k_check => k_is)
    (case a_answer => k_is)
    (case l_answer => k_is)
    (case c_answer => k_is)
    (case k_answer => k_is)
    (case a_answers => k_is)
    (case l_answers => k_is)
    (case c_answers => k_is)
    (case k_answers => k_is)
    (case pg_Case => k_is)
    (case hd_Case => k_is)
    (case po_Case => k_is)
    (case sa_Case => k_is)
    (case mk_Case => k_is)
    (case kc_Case => k_is)
    (case n_Case_steps => k_is)
    (case n_Case_so => k_is)
    (case n_Case_wanted => k_is)
    (case pg_House => k_is)
    (case hd_House => k_is)
    (case po_House => k_is)
    (case sa_House => k_is)
    (case mk_House => k_is)
    (case kc_House => k_is)
    (case n_House_facts => k_is)
    (case n_House_so => k_is)
    (case n_House_wanted => k_is)
    (case n_House_acts => k_is)
    (case n_House_case => k_is)
    (case n_House_order => k_is)
    (case v_WRONG => k_is)
    (case v_NO_PAIR => k_is)
    (case v_NO_PLAN => k_is)
    (case v_TOO_MANY => k_is)
    (case v_MOST_FACTS => k_is)
    (case v_MOST_ACTS => k_is)
    (case v_MOST_STEPS => k_is)
    (case v_MOST_COST => k_is)
    (case v_NUMBERS_OF_ACT => k_is)
    (case v_BEGINS => k_is)
    (case v_NUMBERS => k_is)
    (case w_NUMBERS => k_is)
    (case v_WITH_ROW => k_is)
    (case w_WITH_ROW => k_is)
    (case z_enumerate => k_is)
    (case z_len => k_is)
    (case z_list => k_is)
    (case z_range => k_is)
    (case z_sum => k_is)
    (case z_all => k_is)
    (case z_any => k_is)
    (case z_min => k_is)
    (case z_max => k_is)
    (case z_zip => k_is)
    (case z_tuple => k_is)
  case S =>
    intro K H xs a hO hwi hask hx
    cases hx with
    | cons h1 h2 =>
      cases h2
      cases h1 with
      | lst hs ha =>
        have e := L2.ints_dw a.1 _ ha
        subst e
        have q : ((Codec.inLen 0 1320 a.1 && a.1.all (Codec.inInt 0 4294967295)) && true) = true := hwi
        rw [Bool.and_eq_true, Bool.and_eq_true] at q
        exact ⟨_, a.1, rfl, hs, hO, hask, fun z hz => Codec.inInt_iff.mp (List.all_eq_true.mp q.1.2 z hz), (Codec.inNat_iff.mp q.1.1).2, fun H' p hp => .lst (L2.SqL.of hp) (L2.dw_ints _)⟩
end
