import PyProof.Rows.All
import Wide.All
import OpenK.AllK
import Wide.FinOn
import Open.SpecLaws
import KE.OsHead
import KE.OsGo
import HandS.ForSpec
import KE.GoesMore
import KE.SortData
import KE.LtSeq
import HandS.ForMost
import HandS.Zip
import HandS.Conv
import HandS.TupSets
import HandS.CallLocal
import HandS.SortInts
import HandS.Deep
import HandS.Walk
import KE.KDictDisplayH
import HandS.Codes
import PySem.Challenge.RW_planefacts_s01_answers
set_option Elab.async false
/-! The program's functions as plain Lean functions over the specification's own data, and the specification as sets: no program in sight. -/
namespace Mi
open Kh375

/-- the values of a rule's variables, none: none yet -/
abbrev Row := List (Option Nat)

def sixOrders : List (List Nat) := [[0, 1, 2], [0, 2, 1], [1, 0, 2], [1, 2, 0], [2, 0, 1], [2, 1, 0]]
def pairOrders : List (List Nat) := [[0, 1, 2, 3], [1, 0, 2, 3], [0, 1, 3, 2], [1, 0, 3, 2], [2, 3, 0, 1], [3, 2, 0, 1], [2, 3, 1, 0], [3, 2, 1, 0]]
def restOf (last : Nat) : List Nat := (List.range 4).filter (· ≠ last)
def fourRow (last : Nat) (o : List Nat) : List Nat := [(restOf last).getD (o.getD 0 0) 0, (restOf last).getD (o.getD 1 0) 0, (restOf last).getD (o.getD 2 0) 0, last]
def fourOrders : List (List Nat) := (List.range 4).flatMap fun last => sixOrders.map (fourRow last)
def hasSegs (k : Nat) : Bool := decide (1 ≤ k) && decide (k ≤ 3)
def ordersOf (k : Nat) : List (List Nat) := if hasSegs k then pairOrders else if k = 4 then [[0, 1, 2], [0, 2, 1]] else if k = 5 then fourOrders else sixOrders
def reading (f : Fact) (o : List Nat) : Fact := ⟨f.kind, o.map fun p => f.points.getD p 0⟩
def readings (f : Fact) : List Fact := (ordersOf f.kind).map (reading f)

/-- the facts in normal form -/
def NF (f : Fact) : Prop := match f.kind, f.points with
  | 0, [a, b, c] => a < b ∧ b < c
  | 6, [a, b, c] => a < b ∧ b < c
  | 5, [a, b, c, d] => a < b ∧ b < c ∧ c < d
  | 4, [m, a, b] => a < b ∧ m ≠ a ∧ m ≠ b
  | 1, [a, b, c, d] => a < b ∧ c < d ∧ (a < c ∨ (a = c ∧ b < d))
  | 2, [a, b, c, d] => a < b ∧ c < d ∧ (a < c ∨ (a = c ∧ b < d))
  | 3, [a, b, c, d] => a < b ∧ c < d ∧ (a < c ∨ (a = c ∧ b < d))
  | _, _ => False

theorem sorted2 (a b : Nat) : sorted [a, b] = if a ≤ b then [a, b] else [b, a] := rfl
theorem sorted3 (a b c : Nat) : sorted [a, b, c] = insertSorted a (if b ≤ c then [b, c] else [c, b]) := rfl
theorem sorted4 (a b c d : Nat) : sorted [a, b, c, d] = insertSorted a (insertSorted b (if c ≤ d then [c, d] else [d, c])) := rfl
theorem ins_cons (x y : Nat) (r : List Nat) : insertSorted x (y :: r) = if x ≤ y then x :: y :: r else y :: insertSorted x r := rfl
theorem ins_nil (x : Nat) : insertSorted x [] = [x] := rfl
set_option maxHeartbeats 8000000
set_option maxRecDepth 10000
set_option linter.unusedVariables false

/-- what normalize says, kind by kind -/
theorem norm_cases {g f : Fact} (hk : g.kind < 7) (h : normalize g = some f) :
    (∃ a b c, (g.kind = 0 ∨ g.kind = 6) ∧ g.points = [a, b, c] ∧ [a, b, c].Nodup ∧ f = ⟨g.kind, sorted [a, b, c]⟩) ∨
    (∃ a b c d, g.kind = 5 ∧ g.points = [a, b, c, d] ∧ [a, b, c, d].Nodup ∧ f = ⟨g.kind, sorted [a, b, c, d]⟩) ∨
    (∃ m a b, g.kind = 4 ∧ g.points = [m, a, b] ∧ [m, a, b].Nodup ∧ f = ⟨4, m :: sorted [a, b]⟩) ∨
    (∃ a b c d l, (g.kind = 1 ∨ g.kind = 2 ∨ g.kind = 3) ∧ g.points = [a, b, c, d] ∧ normalizeSegments [a, b] [c, d] = some l ∧ f = ⟨g.kind, l⟩) := by
  obtain ⟨k, ps⟩ := g
  dsimp only at hk
  match k, hk with
  | 0, _ | 6, _ =>
    left
    match ps with
    | [] | [_] | [_, _] | _ :: _ :: _ :: _ :: _ => simp [normalize, pointCounts] at h
    | [a, b, c] =>
      simp only [normalize, pointCounts] at h
      simp only [List.length_cons, List.length_nil] at h
      split at h
      · rename_i q; exact absurd rfl q
      · split at h
        · exact ⟨a, b, c, by simp, rfl, by assumption, (Option.some.inj h).symm⟩
        · cases h
  | 5, _ =>
    right; left
    match ps with
    | [] | [_] | [_, _] | [_, _, _] | _ :: _ :: _ :: _ :: _ :: _ => simp [normalize, pointCounts] at h
    | [a, b, c, d] =>
      simp only [normalize, pointCounts] at h
      simp only [List.length_cons, List.length_nil] at h
      split at h
      · rename_i q; exact absurd rfl q
      · split at h
        · exact ⟨a, b, c, d, rfl, rfl, by assumption, (Option.some.inj h).symm⟩
        · cases h
  | 4, _ =>
    right; right; left
    match ps with
    | [] | [_] | [_, _] | _ :: _ :: _ :: _ :: _ => simp [normalize, pointCounts] at h
    | [a, b, c] =>
      simp only [normalize, pointCounts] at h
      simp only [List.length_cons, List.length_nil] at h
      split at h
      · rename_i q; exact absurd rfl q
      · split at h
        · exact ⟨a, b, c, rfl, rfl, by assumption, (Option.some.inj h).symm⟩
        · cases h
  | 1, _ | 2, _ | 3, _ =>
    right; right; right
    match ps with
    | [] | [_] | [_, _] | [_, _, _] | _ :: _ :: _ :: _ :: _ :: _ => simp [normalize, pointCounts] at h
    | [a, b, c, d] =>
      simp only [normalize, pointCounts] at h
      simp only [List.length_cons, List.length_nil] at h
      split at h
      · rename_i q; exact absurd rfl q
      · rw [Option.map_eq_some_iff] at h
        obtain ⟨l, hl, e⟩ := h
        exact ⟨a, b, c, d, l, by simp, rfl, hl, e.symm⟩

theorem nd3 {a b c : Nat} : [a, b, c].Nodup ↔ a ≠ b ∧ a ≠ c ∧ b ≠ c := by simp; omega
theorem nd4 {a b c d : Nat} : [a, b, c, d].Nodup ↔ a ≠ b ∧ a ≠ c ∧ a ≠ d ∧ b ≠ c ∧ b ≠ d ∧ c ≠ d := by simp; omega
theorem nd2 {a b : Nat} : [a, b].Nodup ↔ a ≠ b := by simp

theorem lex2 (a b c d : Nat) : isLexLess [a, b] [c, d] = (decide (a < c) || (decide (a = c) && decide (b < d))) := by
  simp [isLexLess]

/-- two segments, normal -/
theorem segs_eq (a b c d : Nat) (l : List Nat) : normalizeSegments [a, b] [c, d] = some l ↔ a ≠ b ∧ c ≠ d ∧ sorted [a, b] ≠ sorted [c, d] ∧
    l = if isLexLess (sorted [a, b]) (sorted [c, d]) then sorted [a, b] ++ sorted [c, d] else sorted [c, d] ++ sorted [a, b] := by
  unfold normalizeSegments
  split
  · rename_i q
    constructor
    · intro h; exact ⟨nd2.mp q.1, nd2.mp q.2.1, q.2.2, (Option.some.inj h).symm⟩
    · intro h; rw [h.2.2.2]
  · rename_i q
    constructor
    · intro h; cases h
    · intro h; exact absurd ⟨nd2.mpr h.1, nd2.mpr h.2.1, h.2.2.1⟩ q

theorem sorted3_lt {a b c : Nat} (h : [a, b, c].Nodup) : ∃ x y z, sorted [a, b, c] = [x, y, z] ∧ x < y ∧ y < z := by
  rw [nd3] at h
  rw [sorted3]
  by_cases h1 : b ≤ c <;> by_cases h2 : a ≤ b <;> by_cases h3 : a ≤ c <;> simp only [h1, h2, h3, if_true, if_false, ins_cons, ins_nil] <;>
    exact ⟨_, _, _, rfl, by omega, by omega⟩
theorem sorted4_lt {a b c d : Nat} (h : [a, b, c, d].Nodup) : ∃ x y z w, sorted [a, b, c, d] = [x, y, z, w] ∧ x < y ∧ y < z ∧ z < w := by
  rw [nd4] at h
  rw [sorted4]
  by_cases h1 : c ≤ d <;> by_cases h2 : b ≤ c <;> by_cases h3 : b ≤ d <;> by_cases h4 : a ≤ b <;> by_cases h5 : a ≤ c <;> by_cases h6 : a ≤ d <;>
    simp only [h1, h2, h3, h4, h5, h6, if_true, if_false, ins_cons, ins_nil] <;>
    first | (exact ⟨_, _, _, _, rfl, by omega, by omega, by omega⟩) | (exfalso; omega)
theorem sorted2_lt {a b : Nat} (h : a ≠ b) : ∃ x y, sorted [a, b] = [x, y] ∧ x < y := by
  rw [sorted2]
  by_cases h1 : a ≤ b <;> simp only [h1, if_true, if_false] <;> exact ⟨_, _, rfl, by omega⟩

theorem nf_of {g f : Fact} (hk : g.kind < 7) (h : normalize g = some f) : NF f := by
  rcases norm_cases hk h with ⟨a, b, c, k, _, nd, rfl⟩ | ⟨a, b, c, d, k, _, nd, rfl⟩ | ⟨m, a, b, k, _, nd, rfl⟩ | ⟨a, b, c, d, l, k, _, hl, rfl⟩
  · obtain ⟨x, y, z, e, h1, h2⟩ := sorted3_lt nd
    rw [e]
    rcases k with k | k <;> rw [k] <;> exact ⟨h1, h2⟩
  · obtain ⟨x, y, z, w, e, h1, h2, h3⟩ := sorted4_lt nd
    rw [e, k]
    exact ⟨h1, h2, h3⟩
  · rw [nd3] at nd
    obtain ⟨x, y, e, h1⟩ := sorted2_lt nd.2.2
    have e' := e
    rw [sorted2] at e'
    rw [e]
    refine ⟨h1, ?_⟩
    split at e' <;> cases e' <;> omega
  · rw [segs_eq] at hl
    obtain ⟨h1, h2, h3, rfl⟩ := hl
    obtain ⟨x, y, e1, l1⟩ := sorted2_lt h1
    obtain ⟨z, w, e2, l2⟩ := sorted2_lt h2
    rw [e1, e2, lex2]
    rw [e1, e2] at h3
    have h3' : ¬ (x = z ∧ y = w) := fun q => h3 (by rw [q.1, q.2])
    by_cases c1 : x < z ∨ (x = z ∧ y < w)
    · have : (decide (x < z) || (decide (x = z) && decide (y < w))) = true := by simpa using c1
      rw [if_pos this]
      rcases k with k | k | k <;> rw [k] <;> exact ⟨l1, l2, c1⟩
    · have : ¬ (decide (x < z) || (decide (x = z) && decide (y < w))) = true := by simpa using c1
      rw [if_neg this]
      rcases k with k | k | k <;> rw [k] <;> exact ⟨l2, l1, by omega⟩

/-- the seven shapes of a fact in normal form -/
theorem NF.cases {f : Fact} (h : NF f) :
    (∃ a b c, (f = ⟨0, [a, b, c]⟩ ∨ f = ⟨6, [a, b, c]⟩) ∧ a < b ∧ b < c) ∨
    (∃ a b c d, f = ⟨5, [a, b, c, d]⟩ ∧ a < b ∧ b < c ∧ c < d) ∨
    (∃ m a b, f = ⟨4, [m, a, b]⟩ ∧ a < b ∧ m ≠ a ∧ m ≠ b) ∨
    (∃ a b c d, (f = ⟨1, [a, b, c, d]⟩ ∨ f = ⟨2, [a, b, c, d]⟩ ∨ f = ⟨3, [a, b, c, d]⟩) ∧ a < b ∧ c < d ∧ (a < c ∨ (a = c ∧ b < d))) := by
  obtain ⟨k, ps⟩ := f
  unfold NF at h
  dsimp only at h
  split at h
  · exact .inl ⟨_, _, _, .inl rfl, h⟩
  · exact .inl ⟨_, _, _, .inr rfl, h⟩
  · exact .inr (.inl ⟨_, _, _, _, rfl, h⟩)
  · exact .inr (.inr (.inl ⟨_, _, _, rfl, h⟩))
  · exact .inr (.inr (.inr ⟨_, _, _, _, .inl rfl, h⟩))
  · exact .inr (.inr (.inr ⟨_, _, _, _, .inr (.inl rfl), h⟩))
  · exact .inr (.inr (.inr ⟨_, _, _, _, .inr (.inr rfl), h⟩))
  · exact h.elim
theorem NF.kind {f : Fact} (h : NF f) : f.kind < 7 := by
  rcases h.cases with ⟨a, b, c, rfl | rfl, _⟩ | ⟨a, b, c, d, rfl, _⟩ | ⟨m, a, b, rfl, _⟩ | ⟨a, b, c, d, rfl | rfl | rfl, _⟩ <;> simp
theorem NF.len {f : Fact} (h : NF f) : f.points.length = pointCounts.getD f.kind 0 := by
  rcases h.cases with ⟨a, b, c, rfl | rfl, _⟩ | ⟨a, b, c, d, rfl, _⟩ | ⟨m, a, b, rfl, _⟩ | ⟨a, b, c, d, rfl | rfl | rfl, _⟩ <;> rfl
theorem normalize3 {k : Nat} (hk : k = 0 ∨ k = 6) {a b c : Nat} (h : [a, b, c].Nodup) : normalize ⟨k, [a, b, c]⟩ = some ⟨k, sorted [a, b, c]⟩ := by
  rcases hk with rfl | rfl <;> simp only [normalize, pointCounts] <;> exact (if_neg (fun q => q rfl)).trans (if_pos h)
theorem normalize5 {a b c d : Nat} (h : [a, b, c, d].Nodup) : normalize ⟨5, [a, b, c, d]⟩ = some ⟨5, sorted [a, b, c, d]⟩ := by
  simp only [normalize, pointCounts]; exact (if_neg (fun q => q rfl)).trans (if_pos h)
theorem normalize4 {m a b : Nat} (h : [m, a, b].Nodup) : normalize ⟨4, [m, a, b]⟩ = some ⟨4, m :: sorted [a, b]⟩ := by
  simp only [normalize, pointCounts]; exact (if_neg (fun q => q rfl)).trans (if_pos h)
theorem normalizeS {k : Nat} (hk : k = 1 ∨ k = 2 ∨ k = 3) {a b c d : Nat} : normalize ⟨k, [a, b, c, d]⟩ = (normalizeSegments [a, b] [c, d]).map fun l => ⟨k, l⟩ := by
  rcases hk with rfl | rfl | rfl <;> simp only [normalize, pointCounts] <;> exact if_neg (fun q => q rfl)


theorem read3 {k : Nat} (hk : k = 0 ∨ k = 6) (a b c : Nat) : readings ⟨k, [a, b, c]⟩ = [⟨k, [a, b, c]⟩, ⟨k, [a, c, b]⟩, ⟨k, [b, a, c]⟩, ⟨k, [b, c, a]⟩, ⟨k, [c, a, b]⟩, ⟨k, [c, b, a]⟩] := by
  rcases hk with rfl | rfl <;> rfl
theorem read4 (m a b : Nat) : readings ⟨4, [m, a, b]⟩ = [⟨4, [m, a, b]⟩, ⟨4, [m, b, a]⟩] := rfl
theorem readS {k : Nat} (hk : k = 1 ∨ k = 2 ∨ k = 3) (a b c d : Nat) : readings ⟨k, [a, b, c, d]⟩ = [⟨k, [a, b, c, d]⟩, ⟨k, [b, a, c, d]⟩, ⟨k, [a, b, d, c]⟩, ⟨k, [b, a, d, c]⟩, ⟨k, [c, d, a, b]⟩, ⟨k, [d, c, a, b]⟩, ⟨k, [c, d, b, a]⟩, ⟨k, [d, c, b, a]⟩] := by
  rcases hk with rfl | rfl | rfl <;> rfl
theorem four_is : fourOrders = [[1, 2, 3, 0], [1, 3, 2, 0], [2, 1, 3, 0], [2, 3, 1, 0], [3, 1, 2, 0], [3, 2, 1, 0], [0, 2, 3, 1], [0, 3, 2, 1], [2, 0, 3, 1], [2, 3, 0, 1], [3, 0, 2, 1], [3, 2, 0, 1],
  [0, 1, 3, 2], [0, 3, 1, 2], [1, 0, 3, 2], [1, 3, 0, 2], [3, 0, 1, 2], [3, 1, 0, 2], [0, 1, 2, 3], [0, 2, 1, 3], [1, 0, 2, 3], [1, 2, 0, 3], [2, 0, 1, 3], [2, 1, 0, 3]] := by decide +kernel
theorem read5 (a b c d : Nat) : readings ⟨5, [a, b, c, d]⟩ = [⟨5, [b, c, d, a]⟩, ⟨5, [b, d, c, a]⟩, ⟨5, [c, b, d, a]⟩, ⟨5, [c, d, b, a]⟩, ⟨5, [d, b, c, a]⟩, ⟨5, [d, c, b, a]⟩,
  ⟨5, [a, c, d, b]⟩, ⟨5, [a, d, c, b]⟩, ⟨5, [c, a, d, b]⟩, ⟨5, [c, d, a, b]⟩, ⟨5, [d, a, c, b]⟩, ⟨5, [d, c, a, b]⟩, ⟨5, [a, b, d, c]⟩, ⟨5, [a, d, b, c]⟩, ⟨5, [b, a, d, c]⟩, ⟨5, [b, d, a, c]⟩, ⟨5, [d, a, b, c]⟩, ⟨5, [d, b, a, c]⟩,
  ⟨5, [a, b, c, d]⟩, ⟨5, [a, c, b, d]⟩, ⟨5, [b, a, c, d]⟩, ⟨5, [b, c, a, d]⟩, ⟨5, [c, a, b, d]⟩, ⟨5, [c, b, a, d]⟩] := by
  show (fourOrders).map _ = _
  rw [four_is]
  rfl

theorem sort3_of {a b c : Nat} (h1 : a < b) (h2 : b < c) : sorted [a, b, c] = [a, b, c] ∧ sorted [a, c, b] = [a, b, c] ∧ sorted [b, a, c] = [a, b, c] ∧ sorted [b, c, a] = [a, b, c] ∧ sorted [c, a, b] = [a, b, c] ∧ sorted [c, b, a] = [a, b, c] := by
  have e1 : a ≤ b := by omega
  have e2 : b ≤ c := by omega
  have e3 : a ≤ c := by omega
  have e4 : ¬ b ≤ a := by omega
  have e5 : ¬ c ≤ b := by omega
  have e6 : ¬ c ≤ a := by omega
  simp [sorted, insertSorted, e1, e2, e3, e4, e5, e6]

theorem mem_read3 {k : Nat} (hk : k = 0 ∨ k = 6) {x y z a b c : Nat} (h : [a, b, c].Nodup) (e : sorted [a, b, c] = [x, y, z]) : (⟨k, [a, b, c]⟩ : Fact) ∈ readings ⟨k, [x, y, z]⟩ := by
  rw [nd3] at h
  rw [sorted3] at e
  rw [read3 hk]
  by_cases h1 : b ≤ c <;> by_cases h2 : a ≤ b <;> by_cases h3 : a ≤ c <;> simp only [h1, h2, h3, if_true, if_false, ins_cons, ins_nil, List.cons.injEq, and_true] at e <;>
    obtain ⟨rfl, rfl, rfl⟩ := e <;> simp
theorem mem_read5 {x y z w a b c d : Nat} (h : [a, b, c, d].Nodup) (e : sorted [a, b, c, d] = [x, y, z, w]) : (⟨5, [a, b, c, d]⟩ : Fact) ∈ readings ⟨5, [x, y, z, w]⟩ := by
  rw [nd4] at h
  rw [sorted4] at e
  rw [read5]
  by_cases h1 : c ≤ d <;> by_cases h2 : b ≤ c <;> by_cases h3 : b ≤ d <;> by_cases h4 : a ≤ b <;> by_cases h5 : a ≤ c <;> by_cases h6 : a ≤ d <;>
    simp only [h1, h2, h3, h4, h5, h6, if_true, if_false, ins_cons, ins_nil, List.cons.injEq, and_true] at e <;>
    obtain ⟨rfl, rfl, rfl, rfl⟩ := e <;> first | (exfalso; omega) | simp
theorem sort4_of {a b c d p q r s : Nat} (h1 : a < b) (h2 : b < c) (h3 : c < d) (h : (⟨5, [p, q, r, s]⟩ : Fact) ∈ readings ⟨5, [a, b, c, d]⟩) : sorted [p, q, r, s] = [a, b, c, d] ∧ [p, q, r, s].Nodup := by
  have e1 : a ≤ b := by omega
  have e2 : b ≤ c := by omega
  have e3 : a ≤ c := by omega
  have e7 : c ≤ d := by omega
  have e8 : b ≤ d := by omega
  have e9 : a ≤ d := by omega
  have e4 : ¬ b ≤ a := by omega
  have e5 : ¬ c ≤ b := by omega
  have e6 : ¬ c ≤ a := by omega
  have f1 : ¬ d ≤ a := by omega
  have f2 : ¬ d ≤ b := by omega
  have f3 : ¬ d ≤ c := by omega
  rw [read5] at h
  simp only [List.mem_cons, List.not_mem_nil, or_false, Fact.mk.injEq, true_and, List.cons.injEq, and_true] at h
  rw [nd4]
  rcases h with h | h | h | h | h | h | h | h | h | h | h | h | h | h | h | h | h | h | h | h | h | h | h | h <;> obtain ⟨rfl, rfl, rfl, rfl⟩ := h <;>
    exact ⟨by simp [sorted, insertSorted, e1, e2, e3, e4, e5, e6, e7, e8, e9, f1, f2, f3], by omega⟩

/-- THE readings of a fact in normal form: what becomes it -/
theorem read_mem {f g : Fact} (hf : NF f) : g ∈ readings f ↔ normalize g = some f ∧ g.kind < 7 := by
  constructor
  · intro h
    rcases hf.cases with ⟨a, b, c, k, h1, h2⟩ | ⟨a, b, c, d, rfl, h1, h2, h3⟩ | ⟨m, a, b, rfl, h1, h2, h3⟩ | ⟨a, b, c, d, k, h1, h2, h3⟩
    · obtain ⟨kk, hk, rfl⟩ : ∃ kk, (kk = 0 ∨ kk = 6) ∧ f = ⟨kk, [a, b, c]⟩ := by
        rcases k with k | k
        · exact ⟨0, .inl rfl, k⟩
        · exact ⟨6, .inr rfl, k⟩
      rw [read3 hk] at h
      have S := sort3_of h1 h2
      have hk7 : kk < 7 := by omega
      simp only [List.mem_cons, List.not_mem_nil, or_false] at h
      rcases h with rfl | rfl | rfl | rfl | rfl | rfl <;> refine ⟨?_, hk7⟩ <;> rw [normalize3 hk (by rw [nd3]; omega)]
      · rw [S.1]
      · rw [S.2.1]
      · rw [S.2.2.1]
      · rw [S.2.2.2.1]
      · rw [S.2.2.2.2.1]
      · rw [S.2.2.2.2.2]
    · have hg : ∃ p q r s, g = ⟨5, [p, q, r, s]⟩ := by
        rw [read5] at h
        simp only [List.mem_cons, List.not_mem_nil, or_false] at h
        rcases h with rfl | rfl | rfl | rfl | rfl | rfl | rfl | rfl | rfl | rfl | rfl | rfl | rfl | rfl | rfl | rfl | rfl | rfl | rfl | rfl | rfl | rfl | rfl | rfl <;> exact ⟨_, _, _, _, rfl⟩
      obtain ⟨p, q, r, s, rfl⟩ := hg
      obtain ⟨e, nd⟩ := sort4_of h1 h2 h3 h
      exact ⟨by rw [normalize5 nd, e], by show 5 < 7; decide⟩
    · rw [read4] at h
      have e1 : a ≤ b := by omega
      have e2 : ¬ b ≤ a := by omega
      simp only [List.mem_cons, List.not_mem_nil, or_false] at h
      rcases h with rfl | rfl <;> refine ⟨?_, by show 4 < 7; decide⟩ <;> rw [normalize4 (by rw [nd3]; omega), sorted2]
      · rw [if_pos e1]
      · rw [if_neg e2]
    · obtain ⟨kk, hk, rfl⟩ : ∃ kk, (kk = 1 ∨ kk = 2 ∨ kk = 3) ∧ f = ⟨kk, [a, b, c, d]⟩ := by
        rcases k with k | k | k
        · exact ⟨1, .inl rfl, k⟩
        · exact ⟨2, .inr (.inl rfl), k⟩
        · exact ⟨3, .inr (.inr rfl), k⟩
      have hk7 : kk < 7 := by omega
      have e1 : sorted [a, b] = [a, b] := by rw [sorted2, if_pos (by omega)]
      have e2 : sorted [b, a] = [a, b] := by rw [sorted2, if_neg (by omega)]
      have e3 : sorted [c, d] = [c, d] := by rw [sorted2, if_pos (by omega)]
      have e4 : sorted [d, c] = [c, d] := by rw [sorted2, if_neg (by omega)]
      have L1 : isLexLess [a, b] [c, d] = true := by rw [lex2]; simpa using h3
      have L2 : ¬ isLexLess [c, d] [a, b] = true := by rw [lex2]; simp; omega
      have N1 : [a, b] ≠ [c, d] := by simp; omega
      have N2 : [c, d] ≠ [a, b] := by simp; omega
      rw [readS hk] at h
      simp only [List.mem_cons, List.not_mem_nil, or_false] at h
      have n1 : a ≠ b := by omega
      have n2 : b ≠ a := by omega
      have n3 : c ≠ d := by omega
      have n4 : d ≠ c := by omega
      rcases h with rfl | rfl | rfl | rfl | rfl | rfl | rfl | rfl <;> refine ⟨?_, hk7⟩ <;> rw [normalizeS hk, (segs_eq _ _ _ _ [a, b, c, d]).mpr] <;>
        first | rfl | (refine ⟨by assumption, by assumption, ?_, ?_⟩ <;> simp only [e1, e2, e3, e4]
                       · assumption
                       · first | rw [if_pos L1] | rw [if_neg L2]
                         rfl)
  · rintro ⟨h, hk⟩
    rcases norm_cases hk h with ⟨a, b, c, k, ep, nd, rfl⟩ | ⟨a, b, c, d, k, ep, nd, rfl⟩ | ⟨m, a, b, k, ep, nd, rfl⟩ | ⟨a, b, c, d, l, k, ep, hl, rfl⟩ <;> obtain ⟨gk, gp⟩ := g <;> dsimp only at k ep ⊢ <;> subst ep
    · obtain ⟨x, y, z, e, _⟩ := sorted3_lt nd
      rw [e]
      exact mem_read3 k nd e
    · obtain ⟨x, y, z, w, e, _⟩ := sorted4_lt nd
      rw [e]
      subst k
      exact mem_read5 nd e
    · subst k
      rw [sorted2]
      split
      · rw [read4]; simp
      · rw [read4]; simp
    · rw [segs_eq] at hl
      obtain ⟨_, _, _, rfl⟩ := hl
      rw [sorted2, sorted2]
      by_cases c1 : a ≤ b <;> by_cases c2 : c ≤ d <;> simp only [c1, c2, if_true, if_false] <;> split <;> (show _ ∈ readings ⟨gk, [_, _, _, _]⟩) <;> rw [readS k] <;> simp
/-- what is degenerate -/
theorem none_segs {k : Nat} (hk : k = 1 ∨ k = 2 ∨ k = 3) (a b c d : Nat) : (normalize ⟨k, [a, b, c, d]⟩).isNone = (decide (a = b) || (decide (c = d) || decide (sorted [a, b] = sorted [c, d]))) := by
  rw [normalizeS hk]
  unfold normalizeSegments
  split
  · rename_i q
    have h1 := nd2.mp q.1
    have h2 := nd2.mp q.2.1
    simp [h1, h2, q.2.2]
  · rename_i q
    by_cases c1 : a = b
    · simp [c1]
    · by_cases c2 : c = d
      · simp [c2]
      · by_cases c3 : sorted [a, b] = sorted [c, d]
        · simp [c3]
        · exact absurd ⟨nd2.mpr c1, nd2.mpr c2, c3⟩ q
theorem none_nodup {k : Nat} (hk : k < 7) (hs : ¬ (k = 1 ∨ k = 2 ∨ k = 3)) {ns : List Nat} (hn : ns.length = pointCounts.getD k 0) : (normalize ⟨k, ns⟩).isNone = !decide ns.Nodup := by
  have hc : k = 0 ∨ k = 6 ∨ k = 4 ∨ k = 5 := by omega
  rcases hc with rfl | rfl | rfl | rfl
  all_goals
    have h3 : ns.length = 3 ∨ ns.length = 4 := by first | exact .inl hn | exact .inr hn
    simp only [normalize]
    rw [if_neg (fun z => z hn)]
  · split <;> simp_all
  · split <;> simp_all
  · match ns, hn with
    | [a, b, c], _ =>
      show (if [a, b, c].Nodup then some (⟨4, a :: sorted [b, c]⟩ : Fact) else none).isNone = !decide [a, b, c].Nodup
      by_cases q : [a, b, c].Nodup
      · rw [if_pos q, decide_eq_true q]; rfl
      · rw [if_neg q, decide_eq_false q]; rfl
  · split <;> simp_all
/-- the places of an order -/
theorem order_ok {f : Fact} (h : NF f) {o : List Nat} (ho : o ∈ ordersOf f.kind) : o.length ≤ 4 ∧ ∀ p ∈ o, p < f.points.length := by
  have e3 : ∀ o ∈ sixOrders, o.length ≤ 4 ∧ ∀ p ∈ o, p < 3 := by decide
  have e4 : ∀ o ∈ pairOrders, o.length ≤ 4 ∧ ∀ p ∈ o, p < 4 := by decide
  have e5 : ∀ o ∈ fourOrders, o.length ≤ 4 ∧ ∀ p ∈ o, p < 4 := by rw [four_is]; decide
  have e2 : ∀ o ∈ ([[0, 1, 2], [0, 2, 1]] : List (List Nat)), o.length ≤ 4 ∧ ∀ p ∈ o, p < 3 := by decide
  rcases h.cases with ⟨a, b, c, rfl | rfl, _⟩ | ⟨a, b, c, d, rfl, _⟩ | ⟨m, a, b, rfl, _⟩ | ⟨a, b, c, d, rfl | rfl | rfl, _⟩
  · exact e3 o ho
  · exact e3 o ho
  · exact e5 o ho
  · exact e2 o ho
  · exact e4 o ho
  · exact e4 o ho
  · exact e4 o ho
theorem orders_len (k : Nat) : (ordersOf k).length ≤ 24 := by
  unfold ordersOf
  split
  · decide
  · split
    · decide
    · split
      · rw [four_is]; decide
      · decide
end Mi
set_option Elab.async false
set_option maxRecDepth 100000
set_option maxHeartbeats 4000000
/-! Rules that the hand layer lacks. -/
namespace G
open PySem PySem.Spec PyProof.Rows L2
open AutoSeq1 (wpAny_loadPart')
/-! ### enumerate(tuple) -/
/-- a tuple's iterator at its start -/
abbrev tupIt (t : Addr) : Obj := { cls := .type "tuple_iterator", data := .fields #[.ref t, .int 0 0] }
/-- the enumerate object over the iterator at b -/
abbrev enumOb (b : Addr) : Obj := { cls := .type "enumerate", data := .fields #[.none, .bool false, .ref b, rawInt 0, .none, .none] }
theorem meets_enumT (t : Addr) (items : Array Value) (n : Nat) (dct : Option Addr) (sl : Array (Option Value)) :
    Meets (Builtin.«enumerate.__new__» ⟨[.type "enumerate", .ref t], []⟩) (fun _ R s => s.heap.get? t = some { cls := .type "tuple", dict := dct, data := .seq items n, slots := sl } ∧
      R (.ok (.ret (.ref (s.heap.push (tupIt t)).objs.size))) { s with heap := (s.heap.push (tupIt t)).push (enumOb s.heap.objs.size) }) :=
  .of_wp fun prog w A R s h => by
    obtain ⟨hp, g, d, tk, os⟩ := s
    obtain ⟨hl, h⟩ := h
    have q := sub_enumerate
    have ht : Heap.IsTuple (Shared.heap ⟨hp, g, d, tk, os⟩) t items := ⟨_, hl, rfl, n, rfl⟩
    wp_walk using wpAny_loadPart' hl
    refine wpAny_stack_any fun st => wpAny_pure ?_
    split
    · next c _ _ _ _ _ =>
      cases (c == Value.type "enumerate") <;> (wp_walk using wpAny_loadPart' hl, wpAny_pyIter_tuple ht; exact ⟨_, rfl, h⟩)
    · wp_walk using wpAny_loadPart' hl, wpAny_pyIter_tuple ht
      exact ⟨_, rfl, h⟩
section
variable {prog : Program} {w : World} {A : Around} {E : Value → Shared → Prop} {s : Shared}
theorem call_enumT {t : Addr} {items : Array Value} {Q : Value → Shared → Prop} (hT : s.heap.IsTuple t items)
    (h : ∀ h', IsEnum h' (s.heap.objs.size + 1) s.heap.objs.size 0 .none → h'.IsTupleIter s.heap.objs.size t 0 → (∀ b o, s.heap.get? b = some o → h'.get? b = some o) →
      Q (.ref (s.heap.objs.size + 1)) { s with heap := h' }) : wpAny (model prog w) A (call (.type "enumerate") [.ref t]) Q E s := by
  obtain ⟨⟨c, dct, dt, sl⟩, hl, e1, n, e2⟩ := hT
  dsimp only at e1 e2
  subst e1 e2
  refine callType_new F.called_enumerate (by decide) (F.typeCall_enumerate_1 _) (F.newCall_enumerate_1 _) (fun obj => F.args_object_init_2 obj _) F.entry_enumerate_new (meets_enumT t items n dct sl) ⟨hl, ?_⟩
  have z : (s.heap.push (tupIt t)).objs.size = s.heap.objs.size + 1 := Heap.size_push ..
  have e : IsEnum ((s.heap.push (tupIt t)).push (enumOb s.heap.objs.size)) (s.heap.objs.size + 1) s.heap.objs.size 0 .none := by
    rw [← z]
    exact Heap.get?_push_size (s.heap.push (tupIt t)) rfl
  rw [z]
  exact ⟨⟨_, e, rfl⟩, h _ e ⟨_, Heap.get?_push_of_some _ (Heap.get?_push_size _ rfl), rfl, rfl⟩ fun b o x => Heap.get?_push_of_some _ (Heap.get?_push_of_some _ x)⟩
end
/-- the tuple at a, each item in a new pair with its place -/
def IteT (K : PySem.W.Frag) (a : Addr) : It :=
  ⟨fun i H => ∃ xs x, SqT K H a xs ∧ xs[i]? = some x, fun i H v H' => ∃ T x, v = .ref T ∧ H T = none ∧ H' = upd H T (.tup [.int (i : Nat), x]) ∧ ∀ xs, SqT K H a xs → xs[i]? = some x, fun i H => ∃ xs, SqT K H a xs ∧ xs.length = i⟩
theorem tupI_at {h h' : Heap} {b t : Addr} {i : Nat} (x : h.IsTupleIter b t i) (k : ∀ o, h.get? b = some o → h'.get? b = some o) : h'.IsTupleIter b t i := by
  obtain ⟨o, e, r⟩ := x
  exact ⟨o, k o e, r⟩
theorem turn_enumT {P : Program} {w : World} {K : PySem.W.Frag} {elts : List Expr} {kk : Nat} {tpos : Pos} (a e it : Addr) (hae : a ≠ e) (hai : a ≠ it) :
    Turn P w K (.Tuple elts kk tpos) (IteT K a) [e, it] e (fun i h => (∃ old, IsEnum h e it ((i : Nat) : Int) old) ∧ h.IsTupleIter it a i ∧ e ≠ it) where
  mem := List.mem_cons_self
  obj := by
    rintro i h ⟨⟨old, he⟩, ⟨o, ho, _, hd⟩, _⟩ b hb
    rcases List.mem_cons.mp hb with rfl | hb
    · exact ⟨_, he, fun v q => nomatch q⟩
    · rw [List.mem_singleton] at hb
      subst hb
      exact ⟨o, ho, fun v q => by rw [hd] at q; cases q⟩
  keep := by
    rintro i h h' ⟨⟨old, he⟩, hi, hne⟩ k
    exact ⟨⟨old, k e (by simp) _ he⟩, tupI_at hi fun o q => k it (by simp) o q, hne⟩
  item := by
    intro X hP hw hK hc i pins s σ H E I hf st hg
    subst hP hw hK
    obtain ⟨⟨old, he⟩, hit, hne⟩ := st
    obtain ⟨xs, x, hq, hx⟩ := hg
    obtain ⟨its, rv, p, hz⟩ := I.tuple hq
    obtain ⟨u, hu, ru⟩ := rv.get hx
    have tp : s.heap.IsTuple a its.toArray := p
    have le : e < s.heap.objs.size := Heap.lt_size he
    have li : it < s.heap.objs.size := by obtain ⟨_, q, _⟩ := hit; exact Heap.lt_size q
    have hlt : i < its.toArray.size := by
      have := (List.getElem?_eq_some_iff.mp hu).1
      simpa using this
    -- the tuple stands apart from both
    refine wpAny_pyNext_enum_itemD (Draws.tuple (A := X.A.in1) (I.ok.hd hc) it a hai its.toArray) he ⟨hit, tp⟩ hlt hne (by simp [hne, Ne.symm hae]) fun y h' tk hy ho hst hT hsz hk => ?_
    have ey : y = u := by
      have : its.toArray[i]? = some u := by simpa using hu
      rw [this] at hy
      exact (Option.some.inj hy).symm
    subst ey
    refine ⟨_, rfl, wpAny_letOwnedTupleGo_enum (s := { s with heap := h', toks := tk + 1 }) ho fun h'' he' sb => ?_⟩
    have hT2 : h''.get? s.heap.objs.size = some { cls := .type "tuple", data := .seq #[.int i tk, y] } := (sb.2 _ (Nat.ne_of_gt le)).trans hT
    have new : ObjOk X.prog X.w (upd H s.heap.objs.size (.tup [.int (i : Nat), x])) h'' s.heap.objs.size (.tup [.int (i : Nat), x]) :=
      ⟨show 2 ≤ sizeLine by decide, [.int i tk, y], .cons ⟨_, rfl⟩ (.cons ru .nil), _, hT2, rfl, _, rfl⟩
    have I1 : Inv X pins σ (upd H s.heap.objs.size (.tup [.int (i : Nat), x])) { s with heap := h'', toks := tk + 1 } := by
      refine I.turnedNew (ch := [e, it]) (fun b ob hb q => ?_) hf (Nat.le_refl _) new
      simp only [List.mem_cons, List.not_mem_nil, or_false, not_or] at hb
      exact (sb.2 b hb.1).trans (hk b ob hb.1 hb.2 q)
    refine ⟨.ref s.heap.objs.size, _, I1, rfl, ⟨_, x, rfl, I.hok.fresh (Nat.le_refl _), rfl, fun ys hy => by rw [I.tuple_inj hy hq]; exact hx⟩, ⟨⟨y, ?_⟩, tupI_at hst.1 fun o q => (sb.2 it (Ne.symm hne)).trans q, hne⟩, fun b hb => ?_⟩
    · have e1 : ((i + 1 : Nat) : Int) = (i : Int) + 1 := by omega
      rw [e1]
      exact he'
    · have hb' : b < s.heap.objs.size := by
        simp only [List.mem_cons, List.not_mem_nil, or_false] at hb
        rcases hb with rfl | rfl <;> assumption
      rw [upd_ne (Nat.ne_of_lt hb')]
      exact (hf b hb).1
  done := by
    intro X hP hw hK hc i pins s σ H E I hf st hg
    subst hP hw hK
    obtain ⟨⟨old, he⟩, hit, hne⟩ := st
    obtain ⟨xs, hq, hx⟩ := hg
    obtain ⟨its, rv, p, hz⟩ := I.tuple hq
    obtain ⟨f0, f1, f2, f3, f4, f5⟩ := hf it (by simp)
    have tp : s.heap.IsTuple a its.toArray := p
    have hl := rv.length
    have e : its.toArray.size = i := by simp; omega
    refine wpAny_pyNext_enum_endD (Draws.tuple (A := X.A.in1) (I.ok.hd hc) it a hai its.toArray) he ⟨by rw [e]; exact hit, tp⟩ fun h' eb => ⟨rfl, I.turned (t' := s.toks) (fun b o hb q => eb b o hb q) f0 f1 f3 f4 f5⟩
  self := fun A i s Q E st h => let ⟨⟨_, he⟩, _⟩ := st; wpAny_pyIter_enum he h
def iEnumT (K : PySem.W.Frag) (ta : TA) : TI := fun σ H R => ta σ H fun vs H1 => ∃ a xs, vs = [.ref a] ∧ SqT K H1 a xs ∧ R (IteT K a) H1
theorem pi_enumT {X : Cx} {e : Expr} {ta : TA} {p pos tpos : Pos} {elts : List Expr} {kk : Nat} (hg : Gl X "enumerate") (hm : X.mg "enumerate" = none) (ha : PA X [e] ta) (hs : starEach [e] X.env = [(false, eval e X.env)] := by rfl) :
    PI X (.Tuple elts kk tpos) (.Call (.Name "enumerate" p) [e] [] pos) (iEnumT X.K ta) := by
  refine ⟨fun pins s σ H R I h => ?_⟩
  refine Call_ (ld_blt I hg hm boot_enumerate (PyProof.Rows.callWith_type1 (thn (ha.run pos pins s σ H _ I h) fun us s1 ⟨vs, H1, I1, r1, q1⟩ => ?_) hs rfl))
  obtain ⟨a, xs, rfl, hq, q⟩ := q1
  obtain rfl := r1.ref1
  obtain ⟨its, rv, p', hz⟩ := I1.tuple hq
  have la : a < s1.heap.objs.size := let ⟨_, e1, _⟩ := p'; Heap.lt_size e1
  refine call_enumT p' fun h' he hit hk => wpAny_pyIter_enum he ?_
  refine ⟨s1.heap.objs.size + 1, [s1.heap.objs.size + 1, s1.heap.objs.size], _, _, H1, rfl, I1.kept (t' := s1.toks) hk,
    turn_enumT a (s1.heap.objs.size + 1) s1.heap.objs.size (Nat.ne_of_lt (Nat.lt_succ_of_lt la)) (Nat.ne_of_lt la), ⟨⟨.none, he⟩, hit, Nat.succ_ne_self _⟩, fun b hb => ?_, q⟩
  have le : s1.heap.objs.size ≤ b := by
    rcases List.mem_cons.mp hb with rfl | hb
    · exact Nat.le_succ _
    · exact Nat.le_of_eq (List.mem_singleton.mp hb).symm
  exact I1.fpOk le (I1.hok.fresh le)
theorem walk_enumT {K : PySem.W.Frag} {a : Addr} {xs : List V} : Walk (IteT K a) xs.length (fun H => SqT K H a xs) (fun i H v H' => ∃ T x, v = .ref T ∧ H T = none ∧ H' = upd H T (.tup [.int (i : Nat), x]) ∧ xs[i]? = some x) where
  goes := fun i H hi h => ⟨xs, xs[i], h, List.getElem?_eq_getElem hi⟩
  stops := fun H h => ⟨xs, h, rfl⟩
  yields := fun i H x H' _ h ⟨T, y, e1, e2, e3, e4⟩ => ⟨T, y, e1, e2, e3, e4 xs h⟩
end G
set_option Elab.async false
set_option maxRecDepth 100000
set_option maxHeartbeats 4000000
namespace G
open PySem PySem.Spec PyProof.Rows L2
/-! ### min(a, b) of two values whose order the objects that stand decide -/
/-- all that stood stands -/
abbrev Kept (h h' : Heap) : Prop := ∀ b o, h.get? b = some o → h'.get? b = some o
section
variable {prog : Program} {w : World} {A : Around} {R : Result → Shared → Prop} {I T S : Addr} {a b : Value}
/-- the list that min keeps: nothing, or the best twice -/
abbrev keptOb (xs : Array Value) (c : Nat) : Obj := { cls := .type "list", dict := none, data := .seq xs c, slots := #[] }
abbrev minCall (I S : Addr) : Code := .builtin "min.loop" ⟨[.ref I, .none, .ref S], []⟩
theorem min_end (hh : A.handled = none) (hTI : T ≠ I) (hSI : S ≠ I) {s : Shared} {v : Value} {c : Nat} (hi : s.heap.IsTupleIter I T 2) (ht : s.heap.IsTuple T #[a, b]) (hS : s.heap.get? S = some (keptOb #[v, v] c))
    (hR : ∀ h' tk, (∀ b o, b ≠ I → b ≠ S → s.heap.get? b = some o → h'.get? b = some o) → R (.ok (.ret v)) { s with heap := h', toks := tk }) : codeAny (model prog w) A (minCall I S) R s := by
  have W := Walks.tuple (prog := prog) (w := w) (A := A.in1) hh I T hTI #[a, b]
  refine codeAny_builtin F.entry_min_loop ?_
  rw [Around.under_plainId F.plain_min_loop _]
  show wpAny _ A.in1 (seqItems? (.ref S) >>= _) _ _ s
  refine wpAny_bind (wpAny_seqItems hS rfl ?_)
  show wpAny _ A.in1 (tryCatch (pyNext (.ref I)) _ >>= _) _ _ s
  refine wpAny_bind (wpAny_tryCatch (W.done s _ _ ⟨hi, ht⟩ fun h' tk hk => ?_))
  have hS' := hk S _ (by simpa using hSI) hS
  show wpAny _ A.in1 (updateSeq S (fun _ => #[]) >>= _) _ _ _
  refine wpAny_bind (wpAny_updateSeq hS' rfl (wpAny_bind (wpAny_letGo (wpAny_pure ?_))))
  exact hR _ tk fun d o h1 h2 e => (Heap.get?_update_other _ _ (Ne.symm h2)).trans (hk d o (by simpa using h1) e)
theorem min_turn {k : Bool} (hh : A.handled = none) (hTI : T ≠ I) (hSI : S ≠ I) (hST : S ≠ T) {s : Shared} {c : Nat} (hi : s.heap.IsTupleIter I T 1) (ht : s.heap.IsTuple T #[a, b]) (hS : s.heap.get? S = some (keptOb #[a, a] c))
    (cmp : ∀ (s' : Shared) (Q' E' : Value → Shared → Prop), (∀ d o, d ≠ I → s.heap.get? d = some o → s'.heap.get? d = some o) → Q' (.bool k) s' → wpAny (model prog w) A.in1 (richCompare .Lt b a) Q' E' s')
    (hR : ∀ h' tk, (∀ d o, d ≠ I → d ≠ S → s.heap.get? d = some o → h'.get? d = some o) → R (.ok (.ret (if k then b else a))) { s with heap := h', toks := tk }) : codeAny (model prog w) A (minCall I S) R s := by
  have nm : (toString "min" ++ toString ".loop" : String) = "min.loop" := by decide
  have W := Walks.tuple (prog := prog) (w := w) (A := A.in1) hh I T hTI #[a, b]
  refine codeAny_builtin F.entry_min_loop ?_
  rw [Around.under_plainId F.plain_min_loop _]
  show wpAny _ A.in1 (seqItems? (.ref S) >>= _) _ _ s
  refine wpAny_bind (wpAny_seqItems hS rfl ?_)
  show wpAny _ A.in1 (tryCatch (pyNext (.ref I)) _ >>= _) _ _ s
  refine wpAny_bind (wpAny_tryCatch (W.item 1 s _ _ (by simp) ⟨hi, ht⟩ fun v h' tk hP st hk => ?_))
  have ev : b = v := by simpa using hP
  subst ev
  have hS' := hk S _ (by simpa using hSI) hS
  show wpAny _ A.in1 (tryCatch (holding [b, b] (richCompare .Lt b a >>= _)) _ >>= _) _ _ _
  refine wpAny_bind (wpAny_tryCatch (wpAny_holding (wpAny_bind (cmp _ _ _ (fun d o h1 e => hk d o (by simpa using h1) e) ?_))))
  refine wpAny_bind (wpAny_holding (wpAny_truthy_bool ?_))
  refine wpAny_bind (wpAny_letGo (wpAny_pure ?_))
  cases k with
  | true =>
    rw [if_pos rfl]
    refine wpAny_bind (wpAny_updateSeq hS' rfl (wpAny_bind (wpAny_letGo ?_)))
    rw [nm]
    refine wpAny_pure ⟨plainId_quiet F.plain_min_loop _, min_end (T := T) (a := a) (b := b) hh hTI hSI (st.1.at fun o e => ?_) (st.2.at fun o e => ?_) (Heap.get?_update_self _ hS' rfl) fun h'' tk'' hk'' => ?_⟩
    · exact (Heap.get?_update_other _ _ hSI).trans e
    · exact (Heap.get?_update_other _ _ hST).trans e
    · exact hR h'' tk'' fun d o h1 h2 e => hk'' d o h1 h2 ((Heap.get?_update_other _ _ (Ne.symm h2)).trans (hk d o (by simpa using h1) e))
  | false =>
    rw [if_neg Bool.false_ne_true]
    refine wpAny_bind (wpAny_letGo ?_)
    rw [nm]
    refine wpAny_pure ⟨plainId_quiet F.plain_min_loop _, min_end (T := T) (a := a) (b := b) hh hTI hSI st.1 st.2 hS' fun h'' tk'' hk'' => ?_⟩
    exact hR h'' tk'' fun d o h1 h2 e => hk'' d o h1 h2 (hk d o (by simpa using h1) e)
theorem min_start {k : Bool} (hh : A.handled = none) (hTI : T ≠ I) (hSI : S ≠ I) (hST : S ≠ T) {s : Shared} {c : Nat} (hi : s.heap.IsTupleIter I T 0) (ht : s.heap.IsTuple T #[a, b]) (hS : s.heap.get? S = some (keptOb #[] c))
    (cmp : ∀ (s' : Shared) (Q' E' : Value → Shared → Prop), (∀ d o, d ≠ I → d ≠ S → s.heap.get? d = some o → s'.heap.get? d = some o) → Q' (.bool k) s' → wpAny (model prog w) A.in1 (richCompare .Lt b a) Q' E' s')
    (hR : ∀ h' tk, (∀ d o, d ≠ I → d ≠ S → s.heap.get? d = some o → h'.get? d = some o) → R (.ok (.ret (if k then b else a))) { s with heap := h', toks := tk }) : codeAny (model prog w) A (minCall I S) R s := by
  have nm : (toString "min" ++ toString ".loop" : String) = "min.loop" := by decide
  have W := Walks.tuple (prog := prog) (w := w) (A := A.in1) hh I T hTI #[a, b]
  refine codeAny_builtin F.entry_min_loop ?_
  rw [Around.under_plainId F.plain_min_loop _]
  show wpAny _ A.in1 (seqItems? (.ref S) >>= _) _ _ s
  refine wpAny_bind (wpAny_seqItems hS rfl ?_)
  show wpAny _ A.in1 (tryCatch (pyNext (.ref I)) _ >>= _) _ _ s
  refine wpAny_bind (wpAny_tryCatch (W.item 0 s _ _ (by simp) ⟨hi, ht⟩ fun v h' tk hP st hk => ?_))
  have ev : a = v := by simpa using hP
  subst ev
  have hS' := hk S _ (by simpa using hSI) hS
  show wpAny _ A.in1 (updateSeq S (fun _ => #[a, a]) >>= _) _ _ _
  refine wpAny_bind (wpAny_updateSeq hS' rfl ?_)
  rw [nm]
  have old : ∀ d o, d ≠ I → d ≠ S → s.heap.get? d = some o → (h'.update S (Obj.mapSeq fun _ => #[a, a])).get? d = some o := fun d o h1 h2 e => (Heap.get?_update_other _ _ (Ne.symm h2)).trans (hk d o (by simpa using h1) e)
  refine wpAny_pure ⟨plainId_quiet F.plain_min_loop _, min_turn (T := T) (a := a) (b := b) (k := k) hh hTI hSI hST (st.1.at fun o e => ?_) (st.2.at fun o e => ?_) (Heap.get?_update_self _ hS' rfl) (fun s' Q' E' q hq => ?_) fun h'' tk'' hk'' => ?_⟩
  · exact (Heap.get?_update_other _ _ hSI).trans e
  · exact (Heap.get?_update_other _ _ hST).trans e
  · exact cmp s' Q' E' (fun d o h1 h2 e => q d o h1 (old d o h1 h2 e)) hq
  · exact hR h'' tk'' fun d o h1 h2 e => hk'' d o h1 h2 (old d o h1 h2 e)
end
section
variable {prog : Program} {w : World} {A : Around} {E : Value → Shared → Prop} {s : Shared}
theorem min_two_by {a b : Value} {k : Bool} {Q : Value → Shared → Prop} (hh : A.handled = none)
    (cmp : ∀ (s' : Shared) (Q' E' : Value → Shared → Prop), Kept s.heap s'.heap → Q' (.bool k) s' → wpAny (model prog w) A.in1 (richCompare .Lt b a) Q' E' s')
    (h : ∀ h' tk, Kept s.heap h' → Q (if k then b else a) { s with heap := h', toks := tk }) : wpAny (model prog w) A (call (.builtin "min") [a, b]) Q E s := by
  have nm : (toString "min" ++ toString ".loop" : String) = "min.loop" := by decide
  refine call_function_tree F.kind_min F.plain_min F.entry_min (F.args_min2 _ _) ?_
  show wpAny _ A.in1 (Builtin.Builtins.bindParams "min" ["key", "default"] 0 ⟨[], []⟩ >>= _) _ _ s
  refine wpAny_bind (wpAny_of_eq (rfl : Builtin.Builtins.bindParams "min" ["key", "default"] 0 ⟨[], []⟩ = pure [none, none]) ?_)
  show wpAny _ A.in1 (newTuple [a, b] >>= _) _ _ s
  refine wpAny_bind (wpAny_newObj_type ?_)
  -- the pair at T, its iterator at I, the list that min keeps at S
  let T := s.heap.objs.size
  let o1 : Obj := { cls := .type "tuple", data := .seq #[a, b] }
  have z1 : (s.heap.push o1).objs.size = T + 1 := Heap.size_push ..
  have hT : (s.heap.push o1).IsTuple T #[a, b] := ⟨_, Heap.get?_push_size _ rfl, rfl, 0, rfl⟩
  refine wpAny_bind (wpAny_pyIter_tuple hT ?_)
  let o2 : Obj := { cls := .type "tuple_iterator", data := .fields #[.ref T, .int 0 0] }
  have z2 : ((s.heap.push o1).push o2).objs.size = T + 2 := by rw [Heap.size_push, z1]
  have hI : ((s.heap.push o1).push o2).IsTupleIter (T + 1) T 0 := ⟨o2, by rw [← z1]; exact Heap.get?_push_size _ rfl, rfl, rfl⟩
  refine wpAny_bind (wpAny_newObj_type ?_)
  rw [nm]
  have l0 : T < T + 1 := Nat.lt_succ_self _
  have l1 : T < T + 2 := Nat.lt_succ_of_lt l0
  have l2 : T + 1 < T + 2 := Nat.lt_succ_self _
  have old : ∀ d o, s.heap.get? d = some o → (((s.heap.push o1).push o2).push (keptOb #[] 0)).get? d = some o := fun d o e => Heap.get?_push_of_some _ (Heap.get?_push_of_some _ (Heap.get?_push_of_some _ e))
  have lt : ∀ d o, s.heap.get? d = some o → d < T := fun d o e => Heap.lt_size e
  refine wpAny_pure ⟨plainId_quiet F.plain_min_loop _, ?_⟩
  have e1 : (s.heap.push o1).objs.size = T + 1 := z1
  have key := min_start (prog := prog) (w := w) (A := A) (R := fun r s' => match r with | .ok (.ret v) => Q v s' | .ok _ => False | .error e => E e s') (T := T) (I := T + 1) (S := T + 2) (a := a) (b := b) (k := k) hh (Nat.ne_of_lt l0) (Ne.symm (Nat.ne_of_lt l2)) (Ne.symm (Nat.ne_of_lt l1))
    (s := { s with heap := ((s.heap.push o1).push o2).push (keptOb #[] 0) }) (c := 0) (hI.at fun o e => Heap.get?_push_of_some _ e) ((hT.push _).push _) (by show (((s.heap.push o1).push o2).push _).get? (T + 2) = _; rw [← z2]; exact Heap.get?_push_size _ rfl)
    (fun s' Q' E' q hq => cmp s' Q' E' (fun d o e => q d o (Nat.ne_of_lt (Nat.lt_succ_of_lt (lt d o e))) (Nat.ne_of_lt (Nat.lt_trans (lt d o e) l1)) (old d o e)) hq)
    (fun h' tk q => h h' tk fun d o e => q d o (Nat.ne_of_lt (Nat.lt_succ_of_lt (lt d o e))) (Nat.ne_of_lt (Nat.lt_trans (lt d o e) l1)) (old d o e))
  rw [z2]
  show codeAny _ A (.builtin "min.loop" ⟨[.ref (s.heap.push o1).objs.size, .none, .ref (T + 2)], []⟩) _ _
  rw [z1]
  exact key
end
end G
set_option Elab.async false
set_option maxRecDepth 100000
set_option maxHeartbeats 4000000
namespace G
open PySem PySem.Spec PyProof.Rows L2
/-! ### min of two lists of ints -/
theorem firstLt_lex (e r : Nat → Bool) : ∀ (ns ms : List Int) (i : Nat), (∀ j x y, ns[j]? = some x → ms[j]? = some y → e (i + j) = decide (x = y) ∧ r (i + j) = decide (x < y)) →
    SeqAt.firstLt e r (decide (ns.length < ms.length)) (List.range' i (min ns.length ms.length)) = HT.lexLt ns ms
  | [], [], i, _ => by rw [HT.lexLt_nil_nil]; rfl
  | [], y :: ys, i, _ => by rw [HT.lexLt_nil_cons]; simp [SeqAt.firstLt]
  | x :: xs, [], i, _ => by rw [HT.lexLt_cons_nil]; simp [SeqAt.firstLt]
  | x :: xs, y :: ys, i, h => by
    have ih := firstLt_lex e r xs ys (i + 1) fun j a b ha hb => by
      have := h (j + 1) a b ha hb
      rw [show i + (j + 1) = i + 1 + j by omega] at this
      exact this
    have h0 := h 0 x y rfl rfl
    have e1 : min (x :: xs).length (y :: ys).length = min xs.length ys.length + 1 := by simp only [List.length_cons]; omega
    rw [HT.lexLt_cons, e1, List.range'_succ]
    by_cases c : x = y
    · rw [if_pos c, SeqAt.firstLt_yes (by rw [Nat.add_zero] at h0; rw [h0.1]; exact decide_eq_true c), ← ih]
      simp
    · rw [if_neg c, SeqAt.firstLt_no (by rw [Nat.add_zero] at h0; rw [h0.1]; exact decide_eq_false c)]
      rw [Nat.add_zero] at h0
      exact h0.2
theorem ints_get : ∀ {vs : List Value} {ns : List Int}, IntsAre vs ns → ∀ (j : Nat) (h : j < vs.toArray.size), ∃ t, vs.toArray[j] = .int (ns.getD j 0) t
  | _, _, .cons n t r, 0, _ => ⟨t, rfl⟩
  | _, _, .cons n t r, j + 1, h => ints_get r j (by simpa using h)
theorem int_beq_dec (a b : Int) : (a == b) = decide (a = b) := by
  by_cases c : a = b <;> simp [c]
section
variable {X : Cx}
def rMinL (K : PySem.W.Frag) : List V → Hp → VK → Prop := fun vs H Q => ∃ a b ns ms, vs = [.ref a, .ref b] ∧ SqL K H a (ns.map V.int) ∧ SqL K H b (ms.map V.int) ∧ Q (.ref (if HT.lexLt ms ns then b else a)) H
theorem call_minL (hc : X.calm = true) (hu : X.A.units + 3 < cLine) : CallR X (.builtin "min") (rMinL X.K) := by
  rintro pins s σ H xs us Q I r ⟨a, b, ns, ms, rfl, ha, hb, q⟩
  obtain ⟨u, v, rfl, ru, rv⟩ := vals2 r
  cases ru
  cases rv
  obtain ⟨i1, r1, p1, _⟩ := I.list ha
  obtain ⟨i2, r2, p2, _⟩ := I.list hb
  have n1 : IntsAre i1 ns := r1.ints
  have n2 : IntsAre i2 ms := r2.ints
  refine min_two_by (k := HT.lexLt ms ns) (I.ok.hd hc) (fun s' Q' E' kp hq => ?_) fun h' tk kp => ⟨.ref (if HT.lexLt ms ns then b else a), H, I.kept kp, ?_, q⟩
  · have l1 : s'.heap.IsList a i1.toArray := p1.isList.at fun o e => kp a o e
    have l2 : s'.heap.IsList b i2.toArray := p2.isList.at fun o e => kp b o e
    have g1 : ∀ (j : Nat) (h1 : j < i1.toArray.size), ∃ t, i1.toArray[j] = .int (ns.getD j 0) t := fun j h1 => ints_get n1 j h1
    have g2 : ∀ (j : Nat) (h1 : j < i2.toArray.size), ∃ t, i2.toArray[j] = .int (ms.getD j 0) t := fun j h1 => ints_get n2 j h1
    have z1 : i1.toArray.size = ns.length := by rw [List.size_toArray, ← r1.length, List.length_map]
    have z2 : i2.toArray.size = ms.length := by rw [List.size_toArray, ← r2.length, List.length_map]
    have key : SeqAt.RcLt X.A.in1 s' (.ref b) (.ref a) _ := SeqAt.RcLt.lists (e := fun j => decide (ms.getD j 0 = ns.getD j 0)) (r := fun j => decide (ms.getD j 0 < ns.getD j 0)) l2 l1
      (by show X.A.units + 1 < cLine; omega)
      (fun j h1 h2 => by
        obtain ⟨t, e1⟩ := g2 j h1
        obtain ⟨u, e2⟩ := g1 j h2
        rw [e1, e2]
        exact (by simp only [← int_beq_dec]; exact SeqAt.EqAt.int_int _ _ _ _))
      (fun j h1 h2 _ => by
        obtain ⟨t, e1⟩ := g2 j h1
        obtain ⟨u, e2⟩ := g1 j h2
        rw [e1, e2]
        exact fun prog w E Q h => HT.rcLt_int _ _ _ _ _ _ prog w E Q h)
    refine key _ _ _ _ ?_
    rw [z1, z2, List.range_eq_range', firstLt_lex _ _ ms ns 0 fun j x y hx hy => ?_]
    · exact hq
    · rw [Nat.zero_add]
      simp only [List.getD_eq_getElem?_getD, hx, hy, Option.getD_some]
      exact ⟨trivial, trivial⟩
  · by_cases c : HT.lexLt ms ns = true
    · rw [if_pos c, if_pos c]; rfl
    · rw [if_neg c, if_neg c]; rfl
end
end G
set_option Elab.async false
set_option maxRecDepth 100000
set_option maxHeartbeats 4000000
namespace G
open PySem PySem.Spec PyProof.Rows L2
/-! ### len(set(xs)) of ints, of tuples of ints -/
theorem met_mem (v : Nat → Int) : ∀ i x, x ∈ firstMet v i ↔ ∃ j, j < i ∧ v j = x
  | 0, x => by rw [firstMet_zero]; simp
  | i + 1, x => by
    have ih := met_mem v i
    rw [firstMet_succ]
    unfold step_dedup
    split
    · rename_i h
      rw [ih x]
      rw [List.any_eq_true] at h
      obtain ⟨y, hy, e9⟩ := h
      have ey : y = v i := by simpa using e9
      rw [ey] at hy
      obtain ⟨j0, hj0, e0⟩ := (ih _).mp hy
      constructor
      · rintro ⟨j, hj, e⟩
        exact ⟨j, by omega, e⟩
      · rintro ⟨j, hj, e⟩
        by_cases c : j = i
        · subst c
          exact ⟨j0, hj0, e0.trans e⟩
        · exact ⟨j, by omega, e⟩
    · rw [List.mem_append, ih x, List.mem_singleton]
      constructor
      · rintro (⟨j, hj, e⟩ | e)
        · exact ⟨j, by omega, e⟩
        · exact ⟨i, by omega, e.symm⟩
      · rintro ⟨j, hj, e⟩
        by_cases c : j = i
        · subst c
          exact .inr e.symm
        · exact .inl ⟨j, by omega, e⟩
theorem met_lt (v : Nat → Int) : ∀ i, (∃ j k, j < k ∧ k < i ∧ v j = v k) → (firstMet v i).length < i
  | 0, ⟨_, _, _, h, _⟩ => absurd h (Nat.not_lt_zero _)
  | i + 1, ⟨j, k, h1, h2, e⟩ => by
    rw [firstMet_succ]
    unfold step_dedup
    have le := firstMet_length_le v i
    by_cases c : k = i
    · subst c
      rw [if_pos (by rw [List.any_eq_true]; exact ⟨v j, (met_mem v k _).mpr ⟨j, h1, rfl⟩, by simpa using e⟩)]
      omega
    · have ih := met_lt v i ⟨j, k, h1, by omega, e⟩
      split
      · omega
      · rw [List.length_append, List.length_singleton]; omega
theorem dup_at : ∀ {l : List Int}, ¬ l.Nodup → ∃ j k, j < k ∧ k < l.length ∧ l.getD j 0 = l.getD k 0
  | [], h => absurd List.nodup_nil h
  | x :: l, h => by
    by_cases c : x ∈ l
    · obtain ⟨k, hk, e⟩ := List.mem_iff_getElem.mp c
      exact ⟨0, k + 1, Nat.succ_pos _, by simp; omega, by simp [List.getD_eq_getElem?_getD, hk, e]⟩
    · obtain ⟨j, k, h1, h2, e⟩ := dup_at (l := l) fun n => h (List.nodup_cons.mpr ⟨c, n⟩)
      exact ⟨j + 1, k + 1, by omega, by simp; omega, by simpa using e⟩
theorem met_all {ns : List Int} (hn : ns.Nodup) : (firstMet (fun i => ns.getD i 0) ns.length).length = ns.length := by
  rw [L2.firstMet_nodup ns hn ns.length (Nat.le_refl _), List.take_length]
theorem met_few {ns : List Int} (hn : ¬ ns.Nodup) : (firstMet (fun i => ns.getD i 0) ns.length).length < ns.length :=
  met_lt _ _ (dup_at hn)
def tLenSetN (K : PySem.W.Frag) (ta : TE) : TE := fun σ H Q => ta σ H fun x H1 => ∃ (l : Addr) (ns : List Int), x = V.ref l ∧ SqL K H1 l (ns.map V.int) ∧ ns.length < 64 ∧ ∀ m : Nat, (ns.Nodup → m = ns.length) → (¬ ns.Nodup → m < ns.length) → Q (.int m) H1
theorem pe_lenSetN {X : Cx} {a : Expr} {ta : TE} {p p2 q pos : Pos} (hc : X.calm = true) (hg : Gl X "len") (hm : X.mg "len" = none) (hg2 : Gl X "set") (hm2 : X.mg "set" = none) (ha : PE X a ta)
    (na : starEach [a] X.env = (false, eval a X.env) :: starEach [] X.env := by rfl) : PE X (.Call (.Name "len" p) [.Call (.Name "set" p2) [a] [] q] [] pos) (tLenSetN X.K ta) := by
  refine ⟨fun pins s σ H Q I h => ?_⟩
  refine Call_ (ld_blt I hg hm PySem.boot_len ?_)
  refine callWith_builtin1 (args_cons ?_ rfl) rfl rfl
  refine Call_ (ld_blt I hg2 hm2 boot_set ?_)
  refine callWith_type1 (args_cons (thn (ha.run pins s σ H _ I h) fun v s1 ⟨x, H1, I1, r1, q1⟩ => args_nil ?_) na) na rfl
  obtain ⟨l, ns, rfl, hq, few, q1⟩ := q1
  cases r1
  obtain ⟨its, r, pl, _⟩ := I1.list hq
  have hl : its.toArray.size = ns.length := by rw [List.size_toArray, ← r.length, List.length_map]
  refine call_set_list (I1.ok.hd hc) pl.isList (ns := ns) (by simpa using r.ints) (by unfold scanBound; omega) fun h' tk hS hk => args_nil ?_
  rw [hl] at hS
  obtain ⟨o, es, ep, t, ho, hex, hd, _, _, _, hf, hn⟩ := hS
  have I2 : Inv X pins σ H1 { s1 with heap := h', toks := tk } := I1.kept fun b o e => hk b o (Heap.lt_size e) e
  have le := firstMet_length_le (fun i => ns.getD i 0) ns.length
  refine call_len_set ho hex hd hf (by rw [hn] <;> omega) ⟨.int (firstMet (fun i => ns.getD i 0) ns.length).length, H1, I2.tok _, ⟨_, by rw [hn]⟩, q1 _ met_all met_few⟩
/-- the set of tuples that set(xs) made, its size -/
theorem call_lenT {X : Cx} : CallR X (.builtin "len") (fun vs H Q => ∃ a L, vs = [V.ref a] ∧ H a = some (SetTO X.prog X.w a L) ∧ ((L.map (·.2)).Nodup → Q (.int L.length) H)) := by
  rintro pins s σ H xs us Q I r ⟨a, L, rfl, ha, q⟩
  obtain ⟨u, rfl, ru⟩ := vals1 r
  cases ru
  obtain ⟨⟨es, ep, t, ⟨o, ho, hex, hd⟩, rows, tab, nd, pl, ld, room, few⟩, _⟩ := I.hok a _ ha
  have z : es.size = L.length := by
    have h := congrArg List.length rows
    unfold rowsOf at h
    rw [Array.length_toList, List.length_map] at h
    exact h
  have f : t.fits es.size = true := by
    have h1 := tab.sz
    rw [List.length_map] at h1
    unfold SetTable.fits SetTable.fill
    rw [tab.dm]
    simp
    omega
  refine call_len_set ho hex hd f (by rw [z]; omega) ⟨.int L.length, H, I.tok _, ⟨_, by rw [z]⟩, q nd⟩
end G
set_option Elab.async false
set_option maxRecDepth 100000
set_option maxHeartbeats 4000000
namespace G
open PySem PySem.Spec PyProof.Rows L2
/-! ### {t: v}, t a tuple: one entry -/
def tDispT1 (tk tv : TE) : TE := fun σ H Q => ∀ p, H p = none → tk σ (upd H p (.dT [])) fun x H1 => tv σ H1 fun y H2 => H2 p = some (.dT []) ∧ ∃ (b : Addr) (k : List L2.Key), x = .ref b ∧ H2 b = some (.tup (k.map kV)) ∧ Q (.ref p) (upd H2 p (.dT [(k, y)]))
def onePair (W : V → V → Hp → Prop) : List (V × V) → Hp → Prop
  | [(x, y)], H => W x y H
  | _, _ => False
theorem onePair_of {W : V → V → Hp → Prop} {ps : List (V × V)} {H : Hp} (h : onePair W ps H) : ∃ x y, ps = [(x, y)] ∧ W x y H := by
  match ps, h with
  | [(x, y)], h => exact ⟨x, y, rfl, h⟩
  | [], h => exact h.elim
  | _ :: _ :: _, h => exact h.elim
theorem pe_dispT1 {X : Cx} {pos : Pos} {k v : Expr} {tk tv : TE} (hu : X.A.units + 1 < cLine) (hk : PE X k tk) (hv : PE X v tv) : PE X (.Dict [some k] [v] pos) (tDispT1 tk tv) := by
  refine ⟨fun pins s σ H Q I q => ?_⟩
  have hn := I.hok.fresh (Nat.le_refl s.heap.objs.size)
  have I1 := I.laid (a := s.heap.objs.size) (o := .dT []) (h' := s.heap.push { cls := .type "dict", data := .dict #[] }) (t' := s.toks) (fun _ _ q => Heap.get?_push_of_some _ q) (Nat.le_refl _) (dt_empty s.heap I.big)
  have run := (pps_cons hk hv (pps_nil (X := X) (pos := pos))).run pins _ σ _ (onePair fun x y H2 => H2 s.heap.objs.size = some (.dT []) ∧ ∃ (b : Addr) (k : List L2.Key), x = .ref b ∧ H2 b = some (.tup (k.map kV)) ∧ Q (.ref s.heap.objs.size) (upd H2 s.heap.objs.size (.dT [(k, y)]))) I1 (q _ hn)
  have one : pairTrees [some k] [v] X.env pos ≠ [] := by
    have := pairTrees_length [some k] [v] X.env pos rfl rfl
    intro z
    rw [z] at this
    cases this
  have n15 : (pairTrees [some k] [v] X.env pos).length ≤ 15 := by
    rw [pairTrees_length [some k] [v] X.env pos rfl rfl]
    exact (by decide : 1 ≤ 15)
  rw [arm_eval_Dict, zip_pairTrees [some k] [v] X.env pos rfl rfl, dictDisplay_pairs _ one (by omega)]
  refine wpAny_bind (wpAny_standAt (wpAny_bind (wpAny_subDictH (knd := tupleKind (mixKind X.prog X.w)) (Q := fun d s' => wpAny (model X.prog X.w) X.A (pure (Value.ref d)) (EP X pins σ Q) X.xe s') (by show _ < cLine; omega) n15
    (thn run fun vs s2 ⟨ps, H2, I2, rel, w2⟩ => ?_))))
  obtain ⟨x, y, rfl, e, b, key, rfl, eb, w3⟩ := onePair_of w2
  cases rel with
  | @cons _ uv _ _ rr rt =>
  cases rt
  obtain ⟨u1, u2⟩ := uv
  obtain ⟨r1, r2⟩ := rr
  dsimp only at r1 r2
  cases (show u1 = Value.ref b from r1)
  obtain ⟨z, hd, xs, r0, dd⟩ := dt_of I2.hok e
  cases r0
  refine ⟨[(key, b, u2)], ⟨rfl, rfl, key_of I2.hok eb, True.intro⟩, dd, fun h' tk' dd' hs => wpAny_pure ?_⟩
  obtain ⟨o, es, ep, hq, h2, h3, h4, _, h5⟩ := dd'
  have new : ObjOk X.prog X.w (upd H2 s.heap.objs.size (.dT [(key, y)])) h' s.heap.objs.size (.dT [(key, y)]) := by
    refine ⟨by show 1 ≤ sizeLine; decide, hd, _, ?_, o, es, ep, hq, h2, h3, h4, h5⟩
    refine .cons ⟨rfl, ?_, r2⟩ .nil
    rw [upd_ne (ne_of eb e (fun z => nomatch z))]
    exact eb
  exact ⟨.ref s.heap.objs.size, _, d_write I2 (by rw [e]; exact True.intro) hs ⟨o, hq⟩ new, rfl, w3⟩
end G
set_option Elab.async false
set_option maxRecDepth 100000
set_option maxHeartbeats 4000000
namespace G
open PySem PySem.Spec PyProof.Rows L2
/-! ### sorted: tuples of ints, lists of ints, any number of them -/
open PySem.W (EachIs dataLe dataLt)
/-- a tuple's address, its first int, the others -/
abbrev TupA := Addr × Int × List Int
def TupA.ints (b : TupA) : List Int := b.2.1 :: b.2.2
def encT (b : TupA) : PyData := .tuple (b.ints.map .int)
def encL (b : Addr × List Int) : PyData := .list (b.2.map .int)
theorem not_lt_le (xs ys : List Int) : (!decide (ys < xs)) = decide (xs ≤ ys) := by
  by_cases h : ys < xs
  · have h' : ¬ xs ≤ ys := fun r => List.not_lt.mpr r h
    rw [decide_eq_true h, decide_eq_false h']; rfl
  · rw [decide_eq_false h, decide_eq_true (List.not_lt.mp h)]; rfl
theorem le_tup : dataLe false encT = fun p q => decide (p.ints ≤ q.ints) := by
  funext p q
  show (!dataLt (.tuple (q.ints.map .int)) (.tuple (p.ints.map .int))) = _
  rw [W.dataLt_tuple]
  show (!W.rowLt (q.ints.map .int) (p.ints.map .int)) = _
  rw [W.dataLt_ints, not_lt_le]
theorem each_refs {α : Type} (f : α → Addr) : ∀ ps : List α, EachIs (fun (v : Value) (b : α) => v = .ref (f b)) (ps.map fun b => Value.ref (f b)) ps
  | [] => .nil
  | _ :: ps => .cons rfl (each_refs f ps)
theorem refs_each {α : Type} (f : α → Addr) : ∀ {out : List Value} {ps : List α}, EachIs (fun (v : Value) (b : α) => v = .ref (f b)) out ps → out = ps.map fun b => Value.ref (f b)
  | _, _, .nil => rfl
  | _, _, .cons e r => by rw [e, refs_each f r]; rfl
theorem each_of {α : Type} (f : α → Addr) {R : Value → α → Prop} : ∀ {ps : List α}, (∀ b ∈ ps, R (.ref (f b)) b) → EachIs R (ps.map fun b => Value.ref (f b)) ps
  | [], _ => .nil
  | b :: ps, h => .cons (h b List.mem_cons_self) (each_of f fun c hc => h c (List.mem_cons_of_mem _ hc))
theorem vals_ref_list {α : Type} (f : α → Addr) : ∀ ps : List α, Vals (ps.map fun b => V.ref (f b)) (ps.map fun b => Value.ref (f b))
  | [] => .nil
  | _ :: ps => .cons rfl (vals_ref_list f ps)
theorem vals_refs_are {α : Type} (f : α → Addr) : ∀ {ps : List α} {us : List Value}, Vals (ps.map fun b => V.ref (f b)) us → us = ps.map fun b => Value.ref (f b)
  | [], _, .nil => rfl
  | _ :: ps, _, .cons r t => by
    rw [vals_refs_are f t]
    exact congrArg (· :: _) r
theorem dpAll_ints {K : PySem.W.Frag} {H : Hp} : ∀ ns : List Int, DpAll K H (ns.map V.int) (ns.map PyData.int)
  | [] => .nil
  | n :: ns => .cons (.int n) (dpAll_ints ns)
section
variable {X : Cx}
def rSortTs (K : PySem.W.Frag) : List V → Hp → VK → Prop := fun vs H Q => ∃ (a : Addr) (ps : List TupA), vs = [V.ref a] ∧ SqL K H a (ps.map fun b => V.ref b.1) ∧ (∀ b ∈ ps, SqT K H b.1 (b.ints.map V.int)) ∧
  ∀ p, H p = none → Q (.ref p) (upd H p (.lst ((ps.mergeSort fun p q => decide (p.ints ≤ q.ints)).map fun b => V.ref b.1)))
theorem cr_sortTs (hu : X.A.units + 70 < cLine) : CallR X (.builtin "sorted") (rSortTs X.K) := by
  rintro pins s σ H vs us Q I r ⟨a, ps, rfl, hs, ht, q⟩
  obtain ⟨its, rv, hl, hz⟩ := I.list hs
  rw [Vals.ref1 r]
  obtain rfl := vals_refs_are (fun b : TupA => b.1) rv
  refine W.sorted_data (enc := encT) (bs := ps) hl.isList (each_refs (fun b : TupA => b.1) ps) (each_of (fun b : TupA => b.1) fun b hb => Dp.reads I (encT b) (.ref b.1) _ (.tup (ht b hb) (dpAll_ints _)) rfl)
    (W.AllAlike.of fun b b' => W.alike_ints _ _) (W.Sortable.tuples fun b => ⟨_, _, rfl⟩) (by rw [List.length_map] at hz; exact hz) (fun b _ => ?_) fun out ho eo => ?_
  · have e : (encT b).depth = 1 := by
      simp [encT, PyData.depth, W.depth_ints]
    omega
  · rw [le_tup] at eo
    have e := refs_each (fun b : TupA => b.1) eo
    obtain ⟨ep, he'⟩ := PyProof.Rows.sortedAll_at s.heap (ps.map fun b => Value.ref b.1) out.toArray
    have hlen : ((ps.mergeSort fun p q => decide (p.ints ≤ q.ints)).map fun b : TupA => V.ref b.1).length ≤ sizeLine := by
      rw [List.length_map, List.length_mergeSort]
      rw [List.length_map] at hz
      exact hz
    have rel : Vals ((ps.mergeSort fun p q => decide (p.ints ≤ q.ints)).map fun b : TupA => V.ref b.1) out := by
      rw [e]
      exact vals_ref_list _ _
    have new : ObjOk X.prog X.w (upd H (s.heap.objs.size + 1) (.lst ((ps.mergeSort fun p q => decide (p.ints ≤ q.ints)).map fun b : TupA => V.ref b.1))) (PyProof.Rows.sortedAll s.heap (ps.map fun b => Value.ref b.1) out.toArray) (s.heap.objs.size + 1)
      (.lst ((ps.mergeSort fun p q => decide (p.ints ≤ q.ints)).map fun b : TupA => V.ref b.1)) := ⟨hlen, out, ep, rel, he'⟩
    exact ⟨.ref _, _, I.laid (a := s.heap.objs.size + 1) (t' := s.toks) (fun _ _ => PyProof.Rows.sortedAll_old) (Nat.le_succ _) new, rfl, q _ (I.hok.fresh (Nat.le_succ _))⟩
def rSortLs (K : PySem.W.Frag) : List V → Hp → VK → Prop := fun vs H Q => ∃ (a : Addr) (ps : List (Addr × List Int)), vs = [V.ref a] ∧ SqL K H a (ps.map fun b => V.ref b.1) ∧ (∀ b ∈ ps, SqL K H b.1 (b.2.map V.int)) ∧
  ∀ p, H p = none → Q (.ref p) (upd H p (.lst ((ps.mergeSort fun p q => decide (p.2 ≤ q.2)).map fun b => V.ref b.1)))
theorem cr_sortLs (hu : X.A.units + 70 < cLine) : CallR X (.builtin "sorted") (rSortLs X.K) := by
  rintro pins s σ H vs us Q I r ⟨a, ps, rfl, hs, ht, q⟩
  obtain ⟨its, rv, hl, hz⟩ := I.list hs
  rw [Vals.ref1 r]
  obtain rfl := vals_refs_are (fun b : Addr × List Int => b.1) rv
  refine W.sorted_data (enc := encL) (bs := ps) hl.isList (each_refs (fun b : Addr × List Int => b.1) ps) (each_of (fun b : Addr × List Int => b.1) fun b hb => Dp.reads I (encL b) (.ref b.1) _ (.lst (ht b hb) (dpAll_ints _)) rfl)
    (W.AllAlike.of fun b b' => W.alike_ints _ _) (W.Sortable.others fun b => ⟨(fun z => nomatch z), (fun xs z => nomatch z)⟩) (by rw [List.length_map] at hz; exact hz) (fun b _ => ?_) fun out ho eo => ?_
  · have e : (encL b).depth = 1 := by
      simp [encL, PyData.depth, W.depth_ints]
    omega
  · rw [show dataLe false encL = fun p q => decide (p.2 ≤ q.2) from W.dataLe_rows fun b : Addr × List Int => b.2] at eo
    have e := refs_each (fun b : Addr × List Int => b.1) eo
    obtain ⟨ep, he'⟩ := PyProof.Rows.sortedAll_at s.heap (ps.map fun b => Value.ref b.1) out.toArray
    have hlen : ((ps.mergeSort fun p q => decide (p.2 ≤ q.2)).map fun b : Addr × List Int => V.ref b.1).length ≤ sizeLine := by
      rw [List.length_map, List.length_mergeSort]
      rw [List.length_map] at hz
      exact hz
    have rel : Vals ((ps.mergeSort fun p q => decide (p.2 ≤ q.2)).map fun b : Addr × List Int => V.ref b.1) out := by
      rw [e]
      exact vals_ref_list _ _
    have new : ObjOk X.prog X.w (upd H (s.heap.objs.size + 1) (.lst ((ps.mergeSort fun p q => decide (p.2 ≤ q.2)).map fun b : Addr × List Int => V.ref b.1))) (PyProof.Rows.sortedAll s.heap (ps.map fun b => Value.ref b.1) out.toArray) (s.heap.objs.size + 1)
      (.lst ((ps.mergeSort fun p q => decide (p.2 ≤ q.2)).map fun b : Addr × List Int => V.ref b.1)) := ⟨hlen, out, ep, rel, he'⟩
    exact ⟨.ref _, _, I.laid (a := s.heap.objs.size + 1) (t' := s.toks) (fun _ _ => PyProof.Rows.sortedAll_old) (Nat.le_succ _) new, rfl, q _ (I.hok.fresh (Nat.le_succ _))⟩
end
end G
set_option Elab.async false
set_option maxRecDepth 100000
set_option maxHeartbeats 4000000
/-! The text by places, what the top has written, data in the heap. -/
namespace G
open PySem PySem.Spec PyProof.Rows L2
open Kh375 (Fact Rule)
def topS (i : Nat) : Stmt := PySem.Challenge.pw_planefacts_s01_answers.main.body.getD i (.Pass ⟨0, 0, 0, 0⟩)
theorem hu65 {A : Around} {k : Nat} (hr : Room k A) : A.units + 65 < cLine := by have := hr.un; omega
theorem hu70 {A : Around} {k : Nat} (hr : Room k A) : A.units + 70 < cLine := by have := hr.un; omega
theorem hu3 {A : Around} {k : Nat} (hr : Room k A) : A.units + 3 < cLine := by have := hr.un; omega

/-! ### data -/
abbrev vN (n : Nat) : V := .int (n : Int)
def vO : Option Nat → V
  | none => .int (-1)
  | some n => vN n
/-- a fact's items -/
def fV (f : Fact) : List V := (f.kind :: f.points).map vN
def keyF (f : Fact) : List L2.Key := (f.kind :: f.points).map fun n : Nat => Sum.inl (n : Int)
theorem keyF_kV (f : Fact) : (keyF f).map kV = fV f := by
  unfold keyF fV
  rw [List.map_map]
  rfl
/-- a tracked tuple of a fact -/
def Tp (H : Hp) (v : V) (f : Fact) : Prop := ∃ a, v = .ref a ∧ H a = some (.tup (fV f))
/-- a tuple that is read as a fact -/
def Pt (K : PySem.W.Frag) (H : Hp) (v : V) (f : Fact) : Prop := ∃ a, v = .ref a ∧ SqT K H a (fV f)
theorem Tp.pt {K : PySem.W.Frag} {H : Hp} {v : V} {f : Fact} (h : Tp H v f) : Pt K H v f := by
  obtain ⟨a, e, h⟩ := h
  exact ⟨a, e, SqT.of h⟩
/-- a tuple of facts -/
def PtL (K : PySem.W.Frag) (H : Hp) (v : V) (fs : List Fact) : Prop := ∃ a vs, v = .ref a ∧ SqT K H a vs ∧ Paired (Pt K H) vs fs
/-- a tracked list of facts -/
def Ls (H : Hp) (a : Addr) (fs : List Fact) : Prop := ∃ vs, H a = some (.lst vs) ∧ Paired (Tp H) vs fs
def LN (H : Hp) (a : Addr) (ns : List Nat) : Prop := H a = some (.lst (ns.map vN))
def LO (H : Hp) (a : Addr) (r : Mi.Row) : Prop := H a = some (.lst (r.map vO))
/-- a rule -/
def RuleAt (K : PySem.W.Frag) (H : Hp) (v : V) (r : Rule) : Prop := ∃ a p c, v = .ref a ∧ SqT K H a [vN r.variableCount, p, c] ∧ PtL K H p r.premises ∧ PtL K H c r.conclusions
/-- a tuple of tuples of places -/
def OrdL (K : PySem.W.Frag) (H : Hp) (vs : List V) (os : List (List Nat)) : Prop := Paired (fun v o => ∃ a, v = V.ref a ∧ SqT K H a (o.map vN)) vs os
/-- what is written at the top, in any heap -/
def RulesAt (K : PySem.W.Frag) (a : Addr) : Prop := ∃ vs, ∀ H, SqT K H a vs ∧ Paired (RuleAt K H) vs Kh375.rules
def OrdAt (K : PySem.W.Frag) (a : Addr) (os : List (List Nat)) : Prop := ∃ vs, ∀ H, SqT K H a vs ∧ OrdL K H vs os
/-! ### what the top has written -/
structure DefOk (K : PySem.W.Frag) (mg : Str → Option Value) (x : Str) (i : Nat) (ps : List Str) : Prop where
  ex : ∃ (f : Addr) (fd : FuncData), C8.Def K mg x (topS i) f fd ∧ Binds K fd ps []
structure ClsOk (K : PySem.W.Frag) (mg : Str → Option Value) (x qual : Str) (i : Nat) (ps : List Str) (C : Addr) : Prop where
  cl : Cls K C
  mgC : mg x = some (.ref C)
  ex : ∃ (f : Addr) (fd : FuncData), Mk K C f ∧ C8.Fun K "__init__" qual (inClass (topS i) 0) f fd ∧ Binds K fd ps []
abbrev GInt (mg : Str → Option Value) (x : Str) (n : Int) : Prop := ∃ u, mg x = some u ∧ RelV (.int n) u
abbrev GRef (mg : Str → Option Value) (x : Str) (a : Addr) : Prop := ∃ u, mg x = some u ∧ RelV (.ref a) u
structure Ad where
  sizes : Addr
  six : Addr
  pair : Addr
  rules : Addr
  deeds : Addr
  numbers : Addr
  rows : Addr
  ct : Addr
  cp : Addr
def deedNames : List Str := ["add_hypothesis", "remove_hypothesis", "hypothesis_count", "get_hypothesis", "known_count", "list_known", "round_count", "round_of", "reason", "proof", "needed_hypotheses", "check_proof", "contradiction", "check_drawing", "holds_in_drawing"]
structure Txt (K : PySem.W.Frag) (mg : Str → Option Value) (A : Ad) : Prop where
  n_len : mg "len" = none
  n_list : mg "list" = none
  n_tuple : mg "tuple" = none
  n_set : mg "set" = none
  n_sorted : mg "sorted" = none
  n_min : mg "min" = none
  n_max : mg "max" = none
  n_all : mg "all" = none
  n_any : mg "any" = none
  n_range : mg "range" = none
  n_zip : mg "zip" = none
  n_enumerate : mg "enumerate" = none
  g_COLLINEAR : GInt mg "COLLINEAR" 0
  g_PARALLEL : GInt mg "PARALLEL" 1
  g_PERPENDICULAR : GInt mg "PERPENDICULAR" 2
  g_EQUAL : GInt mg "EQUAL" 3
  g_MIDPOINT : GInt mg "MIDPOINT" 4
  g_CONCYCLIC : GInt mg "CONCYCLIC" 5
  g_APART : GInt mg "APART" 6
  g_MOST_COORDINATE : GInt mg "MOST_COORDINATE" 1000
  g_MOST_KIND : GInt mg "MOST_KIND" 6
  g_MOST_HYPOTHESES : GInt mg "MOST_HYPOTHESES" 16
  g_CREATE : GInt mg "CREATE" 0
  g_SIZES : GRef mg "SIZES" A.sizes
  sizes : ∀ H, SqT K H A.sizes (Kh375.pointCounts.map vN)
  g_SIX_ORDERS : GRef mg "SIX_ORDERS" A.six
  six : OrdAt K A.six Mi.sixOrders
  g_PAIR_ORDERS : GRef mg "PAIR_ORDERS" A.pair
  pair : OrdAt K A.pair Mi.pairOrders
  g_RULES : GRef mg "RULES" A.rules
  rules : RulesAt K A.rules
  g_DEEDS : GRef mg "DEEDS" A.deeds
  deeds : ∃ fs : List Addr, (∀ H, SqT K H A.deeds (.non :: fs.map V.ref)) ∧ Paired (fun f x => mg x = some (.ref f)) fs deedNames
  g_NUMBERS : GRef mg "NUMBERS" A.numbers
  numbers : ∀ H, SqT K H A.numbers (([1, 1, 1, 0, 1, 0, 1, 0, 1, 1, 1, 1, 0, 0, 0, 1] : List Nat).map vN)
  g_ROWS : GRef mg "ROWS" A.rows
  rows : ∀ H, SqT K H A.rows (([0, 1, 0, 0, 0, 0, 0, 0, 1, 1, 1, 1, 1, 0, 1, 2] : List Nat).map vN)
  d_has_segments : DefOk K mg "has_segments" 11 ["kind"]
  d_is_degenerate : DefOk K mg "is_degenerate" 12 ["kind", "points"]
  d_normal : DefOk K mg "normal" 13 ["kind", "points"]
  d_four_orders : DefOk K mg "four_orders" 14 []
  d_orders_of : DefOk K mg "orders_of" 15 ["kind"]
  d_readings : DefOk K mg "readings" 16 ["fact"]
  d_line_of : DefOk K mg "line_of" 17 ["fact"]
  d_are_coordinates : DefOk K mg "are_coordinates" 20 ["many", "row"]
  d_spots_of : DefOk K mg "spots_of" 21 ["row"]
  d_vector : DefOk K mg "vector" 22 ["start", "end"]
  d_cross : DefOk K mg "cross" 23 ["one", "other"]
  d_dot : DefOk K mg "dot" 24 ["one", "other"]
  d_area : DefOk K mg "area" 25 ["a", "b", "c"]
  d_circle_number : DefOk K mg "circle_number" 26 ["a", "b", "c", "d"]
  d_pair_holds : DefOk K mg "pair_holds" 27 ["kind", "spots"]
  d_holds : DefOk K mg "holds" 28 ["fact", "places"]
  d_are_distinct : DefOk K mg "are_distinct" 29 ["spots"]
  d_filled : DefOk K mg "filled" 32 ["pattern", "values"]
  d_matched : DefOk K mg "matched" 33 ["pattern", "reading", "values"]
  d_first_open : DefOk K mg "first_open" 34 ["pattern", "values"]
  k_Theory : ClsOk K mg "Theory" "Theory.__init__" 36 ["self", "many"] A.ct
  t_many : NoAttr K A.ct "many"
  t_order : NoAttr K A.ct "order"
  t_rounds : NoAttr K A.ct "rounds"
  t_known : NoAttr K A.ct "known"
  t_starts : NoAttr K A.ct "starts"
  d_learn : DefOk K mg "learn" 37 ["theory", "fact", "number"]
  d_conclude : DefOk K mg "conclude" 38 ["theory", "rule", "values", "found"]
  d_choices : DefOk K mg "choices" 39 ["theory", "pattern", "values"]
  d_spread : DefOk K mg "spread" 40 ["theory", "rule", "skipped", "values", "found"]
  d_derived : DefOk K mg "derived" 41 ["theory", "news"]
  d_theory_of : DefOk K mg "theory_of" 42 ["many", "hypotheses"]
  d_assignments : DefOk K mg "assignments" 44 ["many", "values"]
  d_premises_of : DefOk K mg "premises_of" 45 ["rule", "values"]
  d_first_assignment : DefOk K mg "first_assignment" 46 ["many", "rule", "fact", "given"]
  d_lesser : DefOk K mg "lesser" 47 ["one", "other"]
  d_first_given : DefOk K mg "first_given" 48 ["many", "rule", "values", "given"]
  d_readings_before : DefOk K mg "readings_before" 49 ["theory", "number"]
  d_reason_of : DefOk K mg "reason_of" 50 ["theory", "fact"]
  d_proof_of : DefOk K mg "proof_of" 51 ["theory", "fact"]
  d_is_derived : DefOk K mg "is_derived" 52 ["many", "fact", "given"]
  d_correct_count : DefOk K mg "correct_count" 53 ["many", "hypotheses", "facts"]
  d_needed : DefOk K mg "needed" 54 ["many", "hypotheses", "theory", "fact"]
  k_Problem : ClsOk K mg "Problem" "Problem.__init__" 58 ["self", "many"] A.cp
  p_many : NoAttr K A.cp "many"
  p_hypotheses : NoAttr K A.cp "hypotheses"
  p_theory : NoAttr K A.cp "theory"
  d_fact_of : DefOk K mg "fact_of" 59 ["problem", "kind", "points"]
  d_known_theory : DefOk K mg "known_theory" 60 ["problem"]
  d_has_hypothesis : DefOk K mg "has_hypothesis" 61 ["problem", "index"]
  d_add_hypothesis : DefOk K mg "add_hypothesis" 62 ["problem", "numbers", "rows"]
  d_remove_hypothesis : DefOk K mg "remove_hypothesis" 63 ["problem", "numbers", "rows"]
  d_hypothesis_count : DefOk K mg "hypothesis_count" 64 ["problem", "numbers", "rows"]
  d_get_hypothesis : DefOk K mg "get_hypothesis" 65 ["problem", "numbers", "rows"]
  d_known_count : DefOk K mg "known_count" 66 ["problem", "numbers", "rows"]
  d_list_known : DefOk K mg "list_known" 67 ["problem", "numbers", "rows"]
  d_round_count : DefOk K mg "round_count" 68 ["problem", "numbers", "rows"]
  d_round_of : DefOk K mg "round_of" 69 ["problem", "numbers", "rows"]
  d_reason : DefOk K mg "reason" 70 ["problem", "numbers", "rows"]
  d_proof : DefOk K mg "proof" 71 ["problem", "numbers", "rows"]
  d_needed_hypotheses : DefOk K mg "needed_hypotheses" 72 ["problem", "numbers", "rows"]
  d_line_fact : DefOk K mg "line_fact" 73 ["problem", "line"]
  d_check_proof : DefOk K mg "check_proof" 74 ["problem", "numbers", "rows"]
  d_contradiction : DefOk K mg "contradiction" 75 ["problem", "numbers", "rows"]
  d_check_drawing : DefOk K mg "check_drawing" 76 ["problem", "numbers", "rows"]
  d_holds_in_drawing : DefOk K mg "holds_in_drawing" 77 ["problem", "numbers", "rows"]
  d_answer : DefOk K mg "answer" 83 ["problem", "call", "numbers", "rows"]
  d_answers : DefOk K mg "answers" 84 ["calls"]
/-! ### heaps -/
theorem _root_.L2.Same.new {H : Hp} {p : Addr} {o : HO} (h : H p = none) : Same H (upd H p o) := fun b u e => by
  rw [upd_ne (ne_of_none e h)]
  exact e
/-- what H does not know may change -/
theorem _root_.L2.Same.mut {H H' : Hp} {p : Addr} {o : HO} (e : Same H H') (h : H p = none) : Same H (upd H' p o) := fun b u x => by
  rw [upd_ne (ne_of_none x h)]
  exact e b u x
theorem _root_.L2.Same.sqt {K : PySem.W.Frag} {H H' : Hp} {a : Addr} {xs : List V} (e : Same H H') (h : SqT K H a xs) : SqT K H' a xs := by
  rcases h with (h | ⟨o, h⟩) | h
  · exact .inl (.inl (e _ _ h))
  · exact .inl (.inr ⟨o, e _ _ h⟩)
  · exact .inr h
theorem _root_.L2.Same.tp {H H' : Hp} {v : V} {f : Fact} (e : Same H H') (h : Tp H v f) : Tp H' v f := by
  obtain ⟨a, ev, h⟩ := h
  exact ⟨a, ev, e _ _ h⟩
theorem _root_.L2.Same.pt {K : PySem.W.Frag} {H H' : Hp} {v : V} {f : Fact} (e : Same H H') (h : Pt K H v f) : Pt K H' v f := by
  obtain ⟨a, ev, h⟩ := h
  exact ⟨a, ev, e.sqt h⟩
theorem _root_.L2.Same.tps {H H' : Hp} {vs : List V} {fs : List Fact} (e : Same H H') (h : Paired (Tp H) vs fs) : Paired (Tp H') vs fs := L2.Paired.mapP h fun _ _ => e.tp
theorem _root_.L2.Same.pts {K : PySem.W.Frag} {H H' : Hp} {vs : List V} {fs : List Fact} (e : Same H H') (h : Paired (Pt K H) vs fs) : Paired (Pt K H') vs fs := L2.Paired.mapP h fun _ _ => e.pt
theorem _root_.L2.Same.ptl {K : PySem.W.Frag} {H H' : Hp} {v : V} {fs : List Fact} (e : Same H H') (h : PtL K H v fs) : PtL K H' v fs := by
  obtain ⟨a, vs, ev, h1, h2⟩ := h
  exact ⟨a, vs, ev, e.sqt h1, e.pts h2⟩
theorem _root_.L2.Same.rule {K : PySem.W.Frag} {H H' : Hp} {v : V} {r : Rule} (e : Same H H') (h : RuleAt K H v r) : RuleAt K H' v r := by
  obtain ⟨a, p, c, ev, h1, h2, h3⟩ := h
  exact ⟨a, p, c, ev, e.sqt h1, e.ptl h2, e.ptl h3⟩
theorem _root_.L2.Same.ls {H H' : Hp} {a : Addr} {fs : List Fact} (e : Same H H') (h : Ls H a fs) : Ls H' a fs := by
  obtain ⟨vs, h1, h2⟩ := h
  exact ⟨vs, e _ _ h1, e.tps h2⟩
/-- tuples stand -/
def Tk (H H' : Hp) : Prop := ∀ b xs, H b = some (.tup xs) → H' b = some (.tup xs)
theorem _root_.L2.Same.tk {H H' : Hp} (e : Same H H') : Tk H H' := fun b _ h => e b _ h
theorem Tk.trans {H H1 H2 : Hp} (a : Tk H H1) (b : Tk H1 H2) : Tk H H2 := fun c xs h => b c xs (a c xs h)
theorem Tk.mut {H H' : Hp} {l : Addr} {o o' : HO} (e : Tk H H') (h : H' l = some o) (n : ∀ xs, o ≠ .tup xs) : Tk H (upd H' l o') := fun b xs x => by
  have y := e b xs x
  rw [upd_ne (fun z => n xs (by rw [z, h] at y; exact Option.some.inj y))]
  exact y
theorem Tk.tp {H H' : Hp} {v : V} {f : Fact} (e : Tk H H') (h : Tp H v f) : Tp H' v f := by
  obtain ⟨a, ev, h⟩ := h
  exact ⟨a, ev, e _ _ h⟩
theorem Tk.tps {H H' : Hp} {vs : List V} {fs : List Fact} (e : Tk H H') (h : Paired (Tp H) vs fs) : Paired (Tp H') vs fs := L2.Paired.mapP h fun _ _ => e.tp
theorem tk_lst {H : Hp} {l : Addr} {xs : List V} {o : HO} (h : H l = some (.lst xs)) : Tk H (upd H l o) := Tk.mut (H := H) (fun _ _ e => e) h fun _ z => nomatch z
theorem paired_at {α β : Type} {F : α → β → Prop} {l1 : List α} {l2 : List β} (h : Paired F l1 l2) {i : Nat} {a : α} (e : l1[i]? = some a) : ∃ b, l2[i]? = some b ∧ F a b := paired_get h e
theorem take_snoc {α : Type} : ∀ {l : List α} {i : Nat} {x : α}, l[i]? = some x → l.take (i + 1) = l.take i ++ [x]
  | a :: l, 0, x, h => by
    have e : a = x := by simpa using h
    subst e
    rfl
  | a :: l, i + 1, x, h => by
    have ih := take_snoc (l := l) (i := i) (x := x) (by simpa using h)
    show a :: l.take (i + 1) = a :: l.take i ++ [x]
    rw [ih]
    rfl
theorem map_get {α β : Type} {f : α → β} {l : List α} {i : Nat} {y : β} (h : (l.map f)[i]? = some y) : ∃ x, l[i]? = some x ∧ y = f x := by
  rw [List.getElem?_map] at h
  cases e : l[i]? with
  | none => rw [e] at h; cases h
  | some x => rw [e] at h; exact ⟨x, rfl, (Option.some.inj h).symm⟩
theorem small_line {n : Nat} (h : n < 16777216) : n < sizeLine := by rw [sizeLine_eq]; exact h
theorem small_lineE {n : Nat} (h : n ≤ 16777216) : n ≤ sizeLine := by rw [sizeLine_eq]; exact h
/-- t[1:] of a tuple of one item at least -/
theorem cut1 (x : V) (xs : List V) : cutV (x :: xs) (some 1) none = xs := by
  unfold cutV
  rw [show (some (1 : Int)) = some ((1 : Nat) : Int) from rfl, HT.sIx_nat, HT.sIx_none]
  have : min 1 (x :: xs).length = 1 := by simp only [List.length_cons]; omega
  rw [this]
  simp
theorem cut1_not (x : V) (xs : List V) : ¬ (HT.sIx (x :: xs).length 0 (some 1) = 0 ∧ HT.sIx (x :: xs).length (x :: xs).length none = (x :: xs).length) := by
  rintro ⟨h, _⟩
  rw [show (some (1 : Int)) = some ((1 : Nat) : Int) from rfl, HT.sIx_nat] at h
  simp only [List.length_cons] at h
  omega
section
variable {X : Cx} {j k : Nat} {x : Str} {sp : Sp} {dvs : List V} {p pos : Pos}
/-- f() -/
theorem pe_c0 (c : C8.Cal X.prog X.w X.K X.mg X.base k x sp dvs) (hr : Room j X.A) (hk : k ≤ j) (hg : Gl X x) (hdb : (x == ("__debug__" : Str)) = false := by decide) : PE X (.Call (.Name x p) [] [] pos) (tCall sp dvs E0 tNil) := by
  obtain ⟨f, fd, ps, ds, F, hm, kp, hb, hd⟩ := c.ex
  exact pe_call0 F (hr.mono hk) hg hm kp hb hd C8.pass0 hdb
end
end G
set_option Elab.async false
set_option maxRecDepth 100000
set_option maxHeartbeats 4000000
/-! Facts and lists of ints as data; sorting of few ints. -/
namespace G
open PySem PySem.Spec PyProof.Rows L2
open Kh375 (Fact Rule)
/-! ### a new object: the heap behind it by a name of its own -/
theorem grow_same {H H1 : Hp} {p : Addr} {o : HO} (e : upd H p o = H1) (np : H p = none) : L2.Same H H1 := e ▸ L2.Same.new np
theorem grow_at {H H1 : Hp} {p : Addr} {o : HO} (e : upd H p o = H1) : H1 p = some o := e ▸ upd_same
theorem sqt_upd {K : PySem.W.Frag} {H : Hp} {l a : Addr} {xs ys : List V} {o : HO} (h : H l = some (.lst xs)) (q : SqT K H a ys) : SqT K (upd H l o) a ys := by
  rcases q with (q | ⟨u, q⟩) | q
  · exact .inl (.inl (by rw [upd_ne (ne_of q h fun z => nomatch z)]; exact q))
  · exact .inl (.inr ⟨u, by rw [upd_ne (ne_of q h fun z => nomatch z)]; exact q⟩)
  · exact .inr q
theorem ordl_upd {K : PySem.W.Frag} {H : Hp} {l : Addr} {xs : List V} {o : HO} {vs : List V} {os : List (List Nat)} (h : H l = some (.lst xs)) (q : OrdL K H vs os) : OrdL K (upd H l o) vs os :=
  L2.Paired.mapP q fun _ _ ⟨a, e, z⟩ => ⟨a, e, sqt_upd h z⟩
theorem _root_.L2.Same.ordl {K : PySem.W.Frag} {H H' : Hp} {vs : List V} {os : List (List Nat)} (e : L2.Same H H') (q : OrdL K H vs os) : OrdL K H' vs os :=
  L2.Paired.mapP q fun _ _ ⟨a, ev, z⟩ => ⟨a, ev, e.sqt z⟩
theorem at_nat {ns : List Nat} {j : Nat} (h : j < ns.length) : atI (ns.map vN) (j : Int) = some (vN (ns.getD j 0)) := by
  refine atI_nat ?_
  rw [List.getElem?_map, List.getElem?_eq_getElem h]
  simp [List.getD_eq_getElem?_getD, h]
theorem fV_at0 (f : Fact) : atI (fV f) 0 = some (vN f.kind) := atI_nat (j := 0) rfl
theorem fV_atS (f : Fact) {p : Nat} (h : p < f.points.length) : atI (fV f) (1 + (p : Int)) = some (vN (f.points.getD p 0)) := by
  have e : (1 + (p : Int)) = ((p + 1 : Nat) : Int) := by omega
  rw [e]
  refine atI_nat ?_
  show ((f.kind :: f.points).map vN)[p + 1]? = _
  rw [List.map_cons, List.getElem?_cons_succ, List.getElem?_map, List.getElem?_eq_getElem h]
  simp [List.getD_eq_getElem?_getD, h]
def dL (ns : List Int) : PyData := .list (ns.map .int)
def dT (ns : List Int) : PyData := .tuple (ns.map .int)
theorem lay_ints : ∀ ns : List Int, PyData.canLayAll0 (ns.map .int) = true
  | [] => by simp [PyData.canLayAll0]
  | n :: ns => by simp [PyData.canLayAll0, PyData.canLay0, lay_ints ns]
theorem shaped_dL (ns : List Int) : SeqAt.shaped (dL ns) = true := by
  show (PyData.canLay0 (.list (ns.map .int)) && decide (PyData.depth (.list (ns.map .int)) ≤ 64)) = true
  simp only [PyData.canLay0, PyData.depth, W.depth_ints, lay_ints]
  rfl
theorem shaped_dT (ns : List Int) : SeqAt.shaped (dT ns) = true := by
  show (PyData.canLay0 (.tuple (ns.map .int)) && decide (PyData.depth (.tuple (ns.map .int)) ≤ 64)) = true
  simp only [PyData.canLay0, PyData.depth, W.depth_ints, lay_ints]
  rfl
theorem eqv_ints : ∀ ns ms : List Int, PyData.eqvAll (ns.map .int) (ms.map .int) = decide (ns = ms)
  | [], [] => by simp [PyData.eqvAll]
  | [], _ :: _ => by simp [PyData.eqvAll]
  | _ :: _, [] => by simp [PyData.eqvAll]
  | a :: r, b :: t => by
    rw [List.map_cons, List.map_cons]
    unfold PyData.eqvAll
    rw [eqv_ints r t]
    unfold PyData.eqv
    by_cases h : a = b <;> by_cases h' : r = t <;> simp [h, h']
theorem eqv_dL (a b : List Int) : PyData.eqv (dL a) (dL b) = decide (a = b) := by
  unfold dL PyData.eqv
  exact eqv_ints a b
theorem eqv_dT (a b : List Int) : PyData.eqv (dT a) (dT b) = decide (a = b) := by
  unfold dT PyData.eqv
  exact eqv_ints a b
theorem dp_dL {K : PySem.W.Frag} {H : Hp} {a : Addr} {ns : List Int} (h : SqL K H a (ns.map V.int)) : Dp K H (.ref a) (dL ns) := .lst h (dpAll_ints ns)
theorem dp_dT {K : PySem.W.Frag} {H : Hp} {a : Addr} {ns : List Int} (h : SqT K H a (ns.map V.int)) : Dp K H (.ref a) (dT ns) := .tup h (dpAll_ints ns)
/-- a fact's items as ints -/
def fI (f : Fact) : List Int := (f.kind :: f.points).map fun n : Nat => (n : Int)
theorem fI_V (f : Fact) : (fI f).map V.int = fV f := by
  unfold fI fV
  rw [List.map_map]
  rfl
theorem nat_int_inj : ∀ {a b : List Nat}, (a.map fun n : Nat => (n : Int)) = (b.map fun n : Nat => (n : Int)) → a = b
  | [], [], _ => rfl
  | [], _ :: _, h => by simp at h
  | _ :: _, [], h => by simp at h
  | x :: a, y :: b, h => by
    simp only [List.map_cons, List.cons.injEq] at h
    rw [nat_int_inj h.2, Int.ofNat.inj h.1]
theorem fI_inj {f g : Fact} (h : fI f = fI g) : f = g := by
  have := nat_int_inj h
  obtain ⟨k, p⟩ := f
  obtain ⟨k', p'⟩ := g
  simp only [List.cons.injEq] at this
  rw [this.1, this.2]
theorem keyF_inj {f g : Fact} (h : keyF f = keyF g) : f = g := by
  have e : ∀ a b : List Nat, (a.map fun n : Nat => (Sum.inl (n : Int) : L2.Key)) = (b.map fun n : Nat => (Sum.inl (n : Int) : L2.Key)) → a = b := by
    intro a
    induction a with
    | nil => intro b h; cases b with
      | nil => rfl
      | cons _ _ => simp at h
    | cons x a ih => intro b h; cases b with
      | nil => simp at h
      | cons y b =>
        simp only [List.map_cons, List.cons.injEq] at h
        have e1 : x = y := by
          have := Sum.inl.inj h.1
          omega
        rw [e1, ih b h.2]
  have := e _ _ h
  obtain ⟨k, p⟩ := f
  obtain ⟨k', p'⟩ := g
  simp only [List.cons.injEq] at this
  rw [this.1, this.2]
def dF (f : Fact) : PyData := dT (fI f)
theorem dp_dF {K : PySem.W.Frag} {H : Hp} {v : V} {f : Fact} (h : Tp H v f) : Dp K H v (dF f) := by
  obtain ⟨a, rfl, h⟩ := h
  refine dp_dT (SqT.of ?_)
  rw [fI_V]
  exact h
theorem eqv_dF (f g : Fact) : PyData.eqv (dF f) (dF g) = decide (f = g) := by
  unfold dF
  rw [eqv_dT]
  by_cases c : f = g
  · rw [decide_eq_true c, decide_eq_true (by rw [c])]
  · rw [decide_eq_false c, decide_eq_false (fun z => c (fI_inj z))]
theorem dpAll_dF {K : PySem.W.Frag} {H : Hp} {vs : List V} {fs : List Fact} (h : Paired (Tp H) vs fs) : DpAll K H vs (fs.map dF) := by
  induction h with
  | nil => exact .nil
  | cons h _ ih => exact .cons (dp_dF h) ih
theorem dp_ls {K : PySem.W.Frag} {H : Hp} {a : Addr} {fs : List Fact} (h : Ls H a fs) : Dp K H (.ref a) (.list (fs.map dF)) := by
  obtain ⟨vs, h1, h2⟩ := h
  exact .lst (SqL.of h1) (dpAll_dF h2)
theorem lay_dF : ∀ fs : List Fact, PyData.canLayAll0 (fs.map dF) = true
  | [] => by simp [PyData.canLayAll0]
  | f :: fs => by
    have h := lay_dF fs
    have e : PyData.canLay0 (dF f) = true := by
      unfold dF dT PyData.canLay0
      exact lay_ints _
    simp [PyData.canLayAll0, e, h]
theorem depth_dF : ∀ fs : List Fact, PyData.depthAll (fs.map dF) ≤ 1
  | [] => by simp [PyData.depthAll]
  | f :: fs => by
    have h := depth_dF fs
    have e : PyData.depth (dF f) = 1 := by simp [dF, dT, PyData.depth, W.depth_ints]
    simp only [List.map_cons, PyData.depthAll]
    omega
theorem shaped_dF (f : Fact) : SeqAt.shaped (dF f) = true := shaped_dT _
theorem shaped_dFs (fs : List Fact) : SeqAt.shaped (.list (fs.map dF)) = true := by
  have h := depth_dF fs
  show (PyData.canLay0 (.list (fs.map dF)) && decide (PyData.depth (.list (fs.map dF)) ≤ 64)) = true
  have e : PyData.depth (.list (fs.map dF)) ≤ 64 := by
    simp only [PyData.depth]
    omega
  rw [decide_eq_true e, Bool.and_true]
  unfold PyData.canLay0
  exact lay_dF fs
theorem any_dF (f : Fact) : ∀ fs : List Fact, ((fs.map dF).any fun z => PyData.eqv z (dF f)) = decide (f ∈ fs)
  | [] => by simp
  | g :: fs => by
    rw [List.map_cons, List.any_cons, any_dF f fs, eqv_dF]
    by_cases c : g = f
    · simp [c]
    · by_cases d : f ∈ fs <;> simp [c, d, Ne.symm c]
/-! ### sorted -/
theorem ins_perm (x : Nat) : ∀ l : List Nat, (Kh375.insertSorted x l).Perm (x :: l)
  | [] => .refl _
  | y :: r => by
    unfold Kh375.insertSorted
    split
    · exact .refl _
    · exact ((ins_perm x r).cons y).trans (.swap x y r)
theorem sorted_perm : ∀ l : List Nat, (Kh375.sorted l).Perm l
  | [] => .refl _
  | x :: l => (ins_perm x (Kh375.sorted l)).trans ((sorted_perm l).cons x)
theorem ins_up (x : Nat) : ∀ {l : List Nat}, l.Pairwise (· ≤ ·) → (Kh375.insertSorted x l).Pairwise (· ≤ ·)
  | [], _ => List.pairwise_singleton _ _
  | y :: r, h => by
    rw [List.pairwise_cons] at h
    unfold Kh375.insertSorted
    split
    · rename_i c
      rw [List.pairwise_cons, List.pairwise_cons]
      exact ⟨fun z hz => by
        rcases List.mem_cons.mp hz with rfl | hz
        · exact c
        · exact Nat.le_trans c (h.1 z hz), h⟩
    · rename_i c
      rw [List.pairwise_cons]
      refine ⟨fun z hz => ?_, ins_up x h.2⟩
      rcases List.mem_cons.mp ((ins_perm x r).mem_iff.mp hz) with rfl | hz
      · omega
      · exact h.1 z hz
theorem sorted_up : ∀ l : List Nat, (Kh375.sorted l).Pairwise (· ≤ ·)
  | [] => List.Pairwise.nil
  | x :: l => ins_up x (sorted_up l)
theorem sorted_len (l : List Nat) : (Kh375.sorted l).length = l.length := (sorted_perm l).length_eq
/-- what sorted hands over -/
theorem sorted_is {ns' : List Int} {ns : List Nat} (p : ns'.Perm (ns.map fun n : Nat => (n : Int))) (u : ns'.Pairwise (· ≤ ·)) : ns' = (Kh375.sorted ns).map fun n : Nat => (n : Int) := by
  refine List.Perm.eq_of_pairwise (le := (· ≤ ·)) (fun a b _ _ h1 h2 => Int.le_antisymm h1 h2) u ?_ (p.trans ((sorted_perm ns).symm.map _))
  rw [List.pairwise_map]
  exact (sorted_up ns).imp fun h => by omega
theorem mapN (ns : List Nat) : ns.map vN = (ns.map fun n : Nat => (n : Int)).map V.int := by
  rw [List.map_map]
  rfl
theorem LN.sq {K : PySem.W.Frag} {H : Hp} {a : Addr} {ns : List Nat} (h : LN H a ns) : SqL K H a ((ns.map fun n : Nat => (n : Int)).map V.int) := by
  rw [← mapN]
  exact SqL.of h
/-! ### within a comprehension: the fragment by name -/
theorem sl_tupK {X : Cx} (K : PySem.W.Frag) (h : X.K = K) : SlR X (rSlT K) := h ▸ sl_tup
theorem sl_listK {X : Cx} (K : PySem.W.Frag) (h : X.K = K) : SlR X (rSlL K) := h ▸ sl_list
theorem ix_tupK {X : Cx} (K : PySem.W.Frag) (h : X.K = K) : IxR X (rIxT K) := h ▸ ix_tup
theorem ix_listK {X : Cx} (K : PySem.W.Frag) (h : X.K = K) : IxR X (rIxL K) := h ▸ ix_list
theorem list_ofK {X : Cx} (K : PySem.W.Frag) (h : X.K = K) : CallR X (.type "list") (fun xs H Q => ∃ p ys, xs = [.ref p] ∧ (SqL K H p ys ∨ SqT K H p ys) ∧ ∀ l, H l = none → Q (.ref l) (upd H l (.lst ys))) := h ▸ call_list_of
theorem pe_fldK {X : Cx} {e : Expr} {f : Str} {pos : Pos} {ta : TE} (K : PySem.W.Frag) (h : X.K = K) (he : PE X e ta) (hb : attributeBase e f X.env (eval e X.env) = eval e X.env) : PE X (.Attribute e f pos) (tFld K ta f) := h ▸ pe_fld he hb
end G
/-! Patterns, readings, values: the functions of rules.py over the specification's own data. -/
namespace Mi
open Kh375
def fill (pat : Fact) (r : Row) : Fact := ⟨pat.kind, pat.points.map fun i => (r.getD i none).getD 0⟩
def matchGo : List (Nat × Nat) → Row → Option Row
  | [], r => some r
  | (i, p) :: rest, r => match r.getD i none with
    | none => matchGo rest (r.set i (some p))
    | some q => if q = p then matchGo rest r else none
def matchP (pat rd : Fact) (r : Row) : Option Row := matchGo (pat.points.zip rd.points) r
def firstOpen (pat : Fact) (r : Row) : Option Nat := pat.points.find? fun i => (r.getD i none).isNone
theorem matchGo_none {i p : Nat} {rest : List (Nat × Nat)} {r : Row} (h : r.getD i none = none) : matchGo ((i, p) :: rest) r = matchGo rest (r.set i (some p)) := by
  simp only [matchGo, h]
theorem matchGo_same {i p : Nat} {rest : List (Nat × Nat)} {r : Row} (h : r.getD i none = some p) : matchGo ((i, p) :: rest) r = matchGo rest r := by
  simp only [matchGo, h, if_true]
theorem matchGo_other {i p q : Nat} {rest : List (Nat × Nat)} {r : Row} (h : r.getD i none = some q) (n : q ≠ p) : matchGo ((i, p) :: rest) r = none := by
  simp only [matchGo, h, if_neg n]
/-! ### assignments -/
def asgStep (n : Nat) (rows : List (List Nat)) (v : Option Nat) : List (List Nat) := match v with
  | none => rows.flatMap fun r => (List.range n).map fun p => r ++ [p]
  | some p => rows.map fun r => r ++ [p]
def asg (n : Nat) (vals : Row) : List (List Nat) := vals.foldl (asgStep n) [[]]
theorem asgStep_len {n : Nat} (hn : n ≤ 7) (rows : List (List Nat)) (v : Option Nat) : (asgStep n rows v).length ≤ 7 * rows.length := by
  cases v with
  | none =>
    induction rows with
    | nil => exact Nat.le_refl _
    | cons r rows ih =>
      have e : (asgStep n (r :: rows) none).length = n + (asgStep n rows none).length := by
        simp [asgStep]
      rw [e, List.length_cons]
      omega
  | some p =>
    simp only [asgStep, List.length_map]
    omega
theorem asg_len {n : Nat} (hn : n ≤ 7) : ∀ (vals : Row) (rows : List (List Nat)), (vals.foldl (asgStep n) rows).length ≤ 7 ^ vals.length * rows.length
  | [], rows => by simp
  | v :: vals, rows => by
    have h := asg_len hn vals (asgStep n rows v)
    have h2 := asgStep_len hn rows v
    rw [List.foldl_cons, List.length_cons, Nat.pow_succ, Nat.mul_assoc]
    exact Nat.le_trans h (Nat.mul_le_mul_left _ h2)
theorem asg_le {n : Nat} (hn : n ≤ 7) {vals : Row} {i : Nat} (h : vals.length ≤ i) : (asg n vals).length ≤ 7 ^ i := by
  have := asg_len hn vals [[]]
  rw [List.length_singleton, Nat.mul_one] at this
  exact Nat.le_trans this (Nat.pow_le_pow_right (by decide) h)
theorem asg_take {n : Nat} {vals : Row} {i : Nat} {v : Option Nat} (h : vals[i]? = some v) : asg n (vals.take (i + 1)) = asgStep n (asg n (vals.take i)) v := by
  unfold asg
  have e : vals.take (i + 1) = vals.take i ++ [v] := by
    obtain ⟨hi, e⟩ := List.getElem?_eq_some_iff.mp h
    rw [← e]
    exact (List.take_append_getElem hi).symm
  rw [e, List.foldl_append]
  rfl
theorem asgStep_snoc (n : Nat) (rows : List (List Nat)) (r : List Nat) (v : Option Nat) : asgStep n (rows ++ [r]) v = asgStep n rows v ++ asgStep n [r] v := by
  cases v <;> simp [asgStep]
/-! ### what the rules' patterns are -/
structure PatOk (m : Nat) (f : Fact) : Prop where
  kind : f.kind < 7
  len : f.points.length = pointCounts.getD f.kind 0
  most : f.points.length ≤ 4
  vars : ∀ i ∈ f.points, i < m
  least : 2 < f.points.length
def patOk (m : Nat) (f : Fact) : Bool := decide (f.kind < 7) && decide (f.points.length = pointCounts.getD f.kind 0) && decide (f.points.length ≤ 4) && f.points.all (fun i => decide (i < m)) && decide (2 < f.points.length)
theorem patOk_of {m : Nat} {f : Fact} (h : patOk m f = true) : PatOk m f := by
  unfold patOk at h
  simp only [Bool.and_eq_true, decide_eq_true_eq, List.all_eq_true] at h
  exact ⟨h.1.1.1.1, h.1.1.1.2, h.1.1.2, h.1.2, h.2⟩
structure RuleOk (r : Rule) : Prop where
  few : r.variableCount ≤ 6
  prem : ∀ f ∈ r.premises, PatOk r.variableCount f
  conc : ∀ f ∈ r.conclusions, PatOk r.variableCount f
  nprem : r.premises.length ≤ 4
  nconc : r.conclusions.length ≤ 4
  all : ∀ i, i < r.variableCount → ∃ f ∈ r.premises, i ∈ f.points
def ruleOk (r : Rule) : Bool := decide (r.variableCount ≤ 6) && r.premises.all (patOk r.variableCount) && r.conclusions.all (patOk r.variableCount) && decide (r.premises.length ≤ 4) && decide (r.conclusions.length ≤ 4) && (List.range r.variableCount).all fun i => r.premises.any fun f => f.points.contains i
theorem rules_ok : rules.all ruleOk = true := by decide +kernel
theorem rule_ok {r : Rule} (h : r ∈ rules) : RuleOk r := by
  have := List.all_eq_true.mp rules_ok r h
  unfold ruleOk at this
  simp only [Bool.and_eq_true, decide_eq_true_eq, List.all_eq_true, List.any_eq_true, List.mem_range, List.contains_iff_mem] at this
  obtain ⟨⟨⟨⟨⟨h1, h2⟩, h3⟩, h4⟩, h5⟩, h6⟩ := this
  exact ⟨h1, fun f hf => patOk_of (h2 f hf), fun f hf => patOk_of (h3 f hf), h4, h5, h6⟩
theorem fill_some (pat : Fact) (row : List Nat) (h : ∀ i ∈ pat.points, i < row.length) : fill pat (row.map some) = substitute row pat := by
  unfold fill substitute
  congr 1
  refine List.map_congr_left fun i hi => ?_
  have hl := h i hi
  simp [List.getD_eq_getElem?_getD, hl]
/-! ### the first assignment -/
def lesser : Option (List Nat) → Option (List Nat) → Option (List Nat)
  | none, o => o
  | some a, none => some a
  | some a, some b => some (if isLexLess b a then b else a)
def allIn (r : Rule) (given : List Fact) (row : List Nat) : Bool := r.premises.all fun p => decide (substitute row p ∈ given)
def firstGiven (n : Nat) (r : Rule) (vals : Row) (given : List Fact) : Option (List Nat) := (asg n vals).find? (allIn r given)
/-- one conclusion, one reading -/
def tryOne (n : Nat) (r : Rule) (f : Fact) (given : List Fact) (best : Option (List Nat)) (pat rd : Fact) : Option (List Nat) :=
  if pat.kind = f.kind then match matchP pat rd (List.replicate r.variableCount none) with
    | none => best
    | some vals => lesser best (firstGiven n r vals given)
  else best
def tryPat (n : Nat) (r : Rule) (f : Fact) (given : List Fact) (best : Option (List Nat)) (pat : Fact) : Option (List Nat) := (readings f).foldl (fun b rd => tryOne n r f given b pat rd) best
def firstAsg (n : Nat) (r : Rule) (f : Fact) (given : List Fact) : Option (List Nat) := r.conclusions.foldl (tryPat n r f given) none
theorem lexInt : ∀ {a b : List Nat}, a.length = b.length → ∀ (lt : List Int → List Int → Bool), lt [] [] = false → (∀ x y xs ys, lt (x :: xs) (y :: ys) = if x = y then lt xs ys else decide (x < y)) →
    lt (a.map fun n : Nat => (n : Int)) (b.map fun n : Nat => (n : Int)) = isLexLess a b
  | [], [], _, lt, h0, _ => by rw [List.map_nil, h0]; rfl
  | x :: a, y :: b, h, lt, h0, h1 => by
    rw [List.map_cons, List.map_cons, h1, lexInt (by simpa using h) lt h0 h1]
    rw [show isLexLess (x :: a) (y :: b) = (decide (x < y) || (decide (x = y) && isLexLess a b)) from rfl]
    by_cases c : x = y
    · subst c
      simp
    · rw [if_neg (by omega)]
      by_cases d : x < y
      · simp [d]
      · simp [c, d]
theorem matchGo_len : ∀ {l : List (Nat × Nat)} {r r' : Row}, matchGo l r = some r' → r'.length = r.length
  | [], r, r', h => by rw [← Option.some.inj h]
  | (i, p) :: l, r, r', h => by
    unfold matchGo at h
    split at h
    · rw [matchGo_len h, List.length_set]
    · split at h
      · exact matchGo_len h
      · cases h
theorem asg_rows_len {n : Nat} : ∀ (vals : Row) (rows : List (List Nat)) (k : Nat), (∀ r ∈ rows, r.length = k) → ∀ r ∈ vals.foldl (asgStep n) rows, r.length = k + vals.length
  | [], rows, k, h, r, hr => h r hr
  | v :: vals, rows, k, h, r, hr => by
    rw [List.foldl_cons] at hr
    have := asg_rows_len vals (asgStep n rows v) (k + 1) (fun q hq => by
      cases v with
      | none =>
        simp only [asgStep, List.mem_flatMap, List.mem_map] at hq
        obtain ⟨q0, h0, p, _, rfl⟩ := hq
        rw [List.length_append, h q0 h0]; rfl
      | some p =>
        simp only [asgStep, List.mem_map] at hq
        obtain ⟨q0, h0, rfl⟩ := hq
        rw [List.length_append, h q0 h0]; rfl) r hr
    rw [this, List.length_cons]
    omega
theorem asg_row_len {n : Nat} {vals : Row} {r : List Nat} (h : r ∈ asg n vals) : r.length = vals.length := by
  have := asg_rows_len vals [[]] 0 (by simp) r h
  omega
theorem reading_same {f rd : Fact} (h : NF f) (hr : rd ∈ readings f) : rd.kind = f.kind ∧ rd.points.length = f.points.length := by
  have k : rd.kind = f.kind := by
    unfold readings at hr
    obtain ⟨o, _, rfl⟩ := List.mem_map.mp hr
    rfl
  refine ⟨k, ?_⟩
  have e := ((read_mem h).mp hr).1
  rw [h.len, ← k]
  by_cases c : rd.points.length = pointCounts.getD rd.kind 0
  · exact c
  · unfold normalize at e
    rw [if_pos c] at e
    cases e
theorem lesser_len {o1 o2 : Option (List Nat)} {k : Nat} (h1 : ∀ r, o1 = some r → r.length = k) (h2 : ∀ r, o2 = some r → r.length = k) : ∀ r, lesser o1 o2 = some r → r.length = k := by
  intro r hr
  cases o1 with
  | none => exact h2 r hr
  | some a =>
    cases o2 with
    | none => exact h1 r hr
    | some b =>
      unfold lesser at hr
      have e := Option.some.inj hr
      split at e
      · subst e; exact h2 _ rfl
      · subst e; exact h1 _ rfl
/-! ### theories -/
def startIs (k a b : Nat) (f : Fact) : Bool := decide (f.kind = k) && (decide (f.points.getD 0 0 = a) && decide (f.points.getD 1 0 = b))
def readsOf (es : List (Fact × Nat)) : List Fact := es.flatMap fun e => readings e.1
def roundIn (es : List (Fact × Nat)) (f : Fact) : Option Nat := (es.find? fun e => decide (e.1 = f)).map (·.2)
theorem readsOf_len : ∀ es : List (Fact × Nat), (readsOf es).length ≤ 24 * es.length
  | [] => Nat.le_refl _
  | e :: es => by
    have h := readsOf_len es
    have k : (readings e.1).length ≤ 24 := by
      unfold readings
      rw [List.length_map]
      exact orders_len _
    show ((readings e.1) ++ readsOf es).length ≤ _
    rw [List.length_append, List.length_cons]
    omega
theorem readsOf_snoc (es : List (Fact × Nat)) (e : Fact × Nat) : readsOf (es ++ [e]) = readsOf es ++ readings e.1 := by
  unfold readsOf
  rw [List.flatMap_append]
  simp
theorem roundIn_snoc (es : List (Fact × Nat)) (f g : Fact) (r : Nat) (h : f ∉ es.map (·.1)) : roundIn (es ++ [(f, r)]) g = if g = f then some r else roundIn es g := by
  unfold roundIn
  rw [List.find?_append]
  by_cases c : g = f
  · subst c
    rw [if_pos rfl, List.find?_eq_none.mpr (fun x hx z => h (List.mem_map.mpr ⟨x, hx, of_decide_eq_true z⟩))]
    simp
  · rw [if_neg c, List.find?_cons_of_neg (by simp [Ne.symm c]), List.find?_nil, Option.or_none]
end Mi
set_option Elab.async false
set_option maxRecDepth 100000
set_option maxHeartbeats 4000000
namespace G
open PySem PySem.Spec PyProof.Rows L2
open Kh375 (Fact Rule)
theorem segs_yes {k : Nat} (h : (1 : Int) ≤ k) : Mi.hasSegs k = decide ((k : Int) ≤ 3) := by
  have e : 1 ≤ k := by omega
  unfold Mi.hasSegs
  rw [decide_eq_true e, Bool.true_and]
  by_cases c : k ≤ 3
  · rw [decide_eq_true c, decide_eq_true (by omega)]
  · rw [decide_eq_false c, decide_eq_false (by omega)]
theorem segs_no {k : Nat} (h : ¬ (1 : Int) ≤ k) : Mi.hasSegs k = false := by
  have e : ¬ 1 ≤ k := by omega
  unfold Mi.hasSegs
  rw [decide_eq_false e]
  rfl
theorem segs_kind {k : Nat} (h : Mi.hasSegs k = true) : k = 1 ∨ k = 2 ∨ k = 3 := by
  unfold Mi.hasSegs at h
  simp at h
  omega
theorem kind_segs {k : Nat} (h : k = 1 ∨ k = 2 ∨ k = 3) : Mi.hasSegs k = true := by
  rcases h with rfl | rfl | rfl <;> rfl
theorem four_of {k : Nat} (hS : k = 1 ∨ k = 2 ∨ k = 3) {ns : List Nat} (hn : ns.length = Kh375.pointCounts.getD k 0) : ∃ x0 x1 x2 x3, ns = [x0, x1, x2, x3] := by
  have : ns.length = 4 := by rcases hS with rfl | rfl | rfl <;> exact hn
  match ns, this with
  | [x0, x1, x2, x3], _ => exact ⟨x0, x1, x2, x3, rfl⟩
theorem len4 {k : Nat} (hk : k < 7) {ns : List Nat} (hn : ns.length = Kh375.pointCounts.getD k 0) : ns.length ≤ 4 := by
  have : k = 0 ∨ k = 1 ∨ k = 2 ∨ k = 3 ∨ k = 4 ∨ k = 5 ∨ k = 6 := by omega
  rcases this with rfl | rfl | rfl | rfl | rfl | rfl | rfl <;> rw [hn] <;> decide
theorem dec_vN {a b : Nat} : decide (vN a = vN b) = true ↔ a = b := by
  rw [decide_eq_true_eq]
  constructor
  · intro h
    have := V.int.inj h
    omega
  · rintro rfl
    rfl
theorem nodup_int (ns : List Nat) : (ns.map fun n : Nat => (n : Int)).Nodup ↔ ns.Nodup := by
  unfold List.Nodup
  rw [List.pairwise_map]
  constructor
  · exact fun h => h.imp fun h z => h (by rw [z])
  · exact fun h => h.imp fun h z => h (by omega)
theorem ms2 {α : Type} (x y : α) (le : α → α → Bool) : [x, y].mergeSort le = if le x y then [x, y] else [y, x] := by
  simp [List.mergeSort, List.MergeSort.Internal.splitInTwo, List.merge]
theorem le2 (a b c d : Nat) : (([(a : Int), (b : Int)] : List Int) ≤ [(c : Int), (d : Int)]) ↔ a < c ∨ (a = c ∧ b ≤ d) := by
  rw [List.cons_le_cons_iff, List.cons_le_cons_iff]
  simp
  omega
theorem lex_of_le {a b c d : Nat} (h : ([(a : Int), (b : Int)] : List Int) ≤ [(c : Int), (d : Int)]) (n : [a, b] ≠ [c, d]) : Kh375.isLexLess [a, b] [c, d] = true := by
  rw [le2] at h
  rw [Mi.lex2]
  have n' : ¬ (a = c ∧ b = d) := fun z => n (by rw [z.1, z.2])
  simp
  omega
theorem lex_of_gt {a b c d : Nat} (h : ¬ ([(a : Int), (b : Int)] : List Int) ≤ [(c : Int), (d : Int)]) : Kh375.isLexLess [a, b] [c, d] = false := by
  rw [le2] at h
  rw [Mi.lex2]
  simp
  omega
section
variable {P : Program} {w : World} {K : PySem.W.Frag} {mg : Str → Option Value} {base : Heap} {A : Ad}
/-! has_segments: slots 0 kind -/
abbrev s_has_segments : Stmt := topS 11
abbrev N_has_segments : List Str := ["kind"]
theorem sc_has_segments : FnScope N_has_segments ["kind"] (defScope s_has_segments) := C8.fnScope_by (by decide +kernel)
def sp_has_segments : Sp := fun vs H Q _ => ∃ k : Nat, vs = [vN k] ∧ Q (.bl (Mi.hasSegs k)) H
theorem c_has_segments (T : Txt K mg A) : C8.Cal P w K mg base 1 "has_segments" sp_has_segments [] := by
  obtain ⟨f, fd, F, b⟩ := T.d_has_segments.ex
  refine C8.cal0 F b .nil sc_has_segments ?_ ?_
  · rintro vs H Q E ⟨k, rfl, _⟩
    rfl
  · rintro cdv _ outer s H vs Q E hr ⟨k, rfl, q⟩
    refine ⟨_, (pss_one (ps_ret (pe_chain op_le op_le (C8.pe_gc rfl T.g_PARALLEL) (pv 0) (C8.pe_gc rfl T.g_EQUAL)))), ?_⟩
    refine ⟨_, rfl, _, _, rfl, rfl, _, rfl, ?_⟩
    refine ite2 (fun h => ⟨_, _, rfl, rfl, ?_⟩) fun h => ?_
    · rw [segs_yes (of_decide_eq_true h)] at q
      exact q
    · rw [segs_no (fun z => h (decide_eq_true z))] at q
      exact q
/-! is_degenerate: slots 0 kind, 1 points -/
abbrev s_is_degenerate : Stmt := topS 12
abbrev N_is_degenerate : List Str := ["kind", "points"]
theorem sc_is_degenerate : FnScope N_is_degenerate ["kind", "points"] (defScope s_is_degenerate) := C8.fnScope_by (by decide +kernel)
def sp_is_degenerate : Sp := fun vs H Q _ => ∃ (k : Nat) (a : Addr) (ns : List Nat), vs = [vN k, .ref a] ∧ LN H a ns ∧ k < 7 ∧ ns.length = Kh375.pointCounts.getD k 0 ∧ ∀ H', L2.Same H H' → Q (.bl (Kh375.normalize ⟨k, ns⟩).isNone) H'
theorem c_is_degenerate (T : Txt K mg A) : C8.Cal P w K mg base 2 "is_degenerate" sp_is_degenerate [] := by
  obtain ⟨f, fd, F, b⟩ := T.d_is_degenerate.ex
  refine C8.cal0 F b .nil sc_is_degenerate ?_ ?_
  · rintro vs H Q E ⟨k, a, ns, rfl, _⟩
    rfl
  · rintro cdv _ outer s H vs Q E hr ⟨k, a, ns, rfl, ha, hk, hn, q⟩
    refine ⟨_, (pss_cons (ps_if (pt_val (C8.pe_c (c_has_segments T) hr (by decide) rfl (pa_cons (pv 0) pa_nil))) (pss_cons (ps_if (PW.pt (pw_or (pt_cmpR op_eq (pe_ix ix_list (pv 1) pe_int (fun _ _ => rfl)) (pe_ix ix_list (pv 1) pe_int (fun _ _ => rfl)) (nomark _)) (pw_or1 (pt_cmpR op_eq (pe_ix ix_list (pv 1) pe_int (fun _ _ => rfl)) (pe_ix ix_list (pv 1) pe_int (fun _ _ => rfl)) (nomark _))))) (pss_one (ps_ret pe_bl)) pss_nil)
        (pss_one (ps_ret (pe_cmpR (op_eqD hr.units) (pe_callB cr_sortedI rfl T.n_sorted (by decide +kernel) (pa_cons (pe_slice sl_list (pv 1) po_none (po_some pe_int)) pa_nil)) (pe_callB cr_sortedI rfl T.n_sorted (by decide +kernel) (pa_cons (pe_slice sl_list (pv 1) (po_some pe_int) po_none) pa_nil)) (nomark _))))) pss_nil)
        (pss_one (ps_ret (pe_cmpR op_lt (pe_lenSetN rfl rfl T.n_len rfl T.n_set (pv 1)) (pe_callB call_len_seq rfl T.n_len PySem.boot_len (pa_cons (pv 1) pa_nil)) (nomark _))))), ?_⟩
    refine ⟨_, rfl, k, rfl, _, rfl, ite2 (fun h => ?_) fun h => ?_⟩
    · have hS := segs_kind h
      obtain ⟨x0, x1, x2, x3, rfl⟩ := four_of hS hn
      have S : SqL K H a ([vN x0, vN x1, vN x2, vN x3]) := SqL.of ha
      have e := Mi.none_segs hS x0 x1 x2 x3
      refine ⟨_, rfl, a, _, _, _, rfl, rfl, S, rfl, _, rfl, a, _, _, _, rfl, rfl, S, rfl, rfl, _, rfl, ite2 (fun h1 => iteT ?_) fun h1 => ?_⟩
      · have z := q H (L2.Same.refl H)
        rw [e, dec_vN.mp h1, decide_eq_true rfl] at z
        exact z
      refine ⟨_, rfl, a, _, _, _, rfl, rfl, S, rfl, _, rfl, a, _, _, _, rfl, rfl, S, rfl, rfl, _, rfl, ite2 (fun h2 => ?_) fun h2 => ?_⟩
      · have z := q H (L2.Same.refl H)
        rw [e, dec_vN.mp h2, decide_eq_true (rfl : x3 = x3), Bool.true_or, Bool.or_true] at z
        exact z
      have n1 : ¬ x0 = x1 := fun z => h1 (dec_vN.mpr z)
      have n2 : ¬ x2 = x3 := fun z => h2 (dec_vN.mpr z)
      rw [decide_eq_false n1, decide_eq_false n2, Bool.false_or, Bool.false_or] at e
      refine ⟨_, rfl, _, rfl, a, _, rfl, S, fun p1 np1 => ⟨p1, [x0, x1], rfl, SqL.of upd_same, fun s1 p2 pm1 up1 np2 => ?_⟩⟩
      have hs1 := sorted_is (ns := [x0, x1]) pm1 up1
      subst hs1
      have m1 := (L2.Same.new (o := .lst (cutV [vN x0, vN x1, vN x2, vN x3] none (some 2))) np1).trans (L2.Same.new (o := .lst (((Kh375.sorted [x0, x1]).map fun n : Nat => (n : Int)).map V.int)) np2)
      refine ⟨_, rfl, _, rfl, a, _, rfl, m1.seq S, fun p3 np3 => ⟨p3, [x2, x3], rfl, SqL.of upd_same, fun s2 p4 pm2 up2 np4 => ?_⟩⟩
      have hs2 := sorted_is (ns := [x2, x3]) pm2 up2
      subst hs2
      have m2 := (L2.Same.new (o := .lst (cutV [vN x0, vN x1, vN x2, vN x3] (some 2) none)) np3).trans (L2.Same.new (o := .lst (((Kh375.sorted [x2, x3]).map fun n : Nat => (n : Int)).map V.int)) np4)
      refine ⟨dL _, dL _, dp_dL (m2.seq (SqL.of upd_same)), dp_dL (SqL.of upd_same), shaped_dL _, shaped_dL _, ?_⟩
      have z := q _ (m1.trans m2)
      rw [e] at z
      rw [eqv_dL]
      have e3 : decide ((Kh375.sorted [x0, x1]).map (fun n : Nat => (n : Int)) = (Kh375.sorted [x2, x3]).map fun n : Nat => (n : Int)) = decide (Kh375.sorted [x0, x1] = Kh375.sorted [x2, x3]) := by
        by_cases c : Kh375.sorted [x0, x1] = Kh375.sorted [x2, x3]
        · rw [c, decide_eq_true rfl, decide_eq_true rfl]
        · rw [decide_eq_false c, decide_eq_false (fun z => c (nat_int_inj z))]
      rw [e3]
      exact z
    · have hS : ¬ (k = 1 ∨ k = 2 ∨ k = 3) := fun z => h (kind_segs z)
      have l4 : ns.length ≤ 4 := len4 hk hn
      refine ⟨_, rfl, a, ns.map fun n : Nat => (n : Int), rfl, ha.sq, by rw [List.length_map]; omega, fun m hm1 hm2 => ?_⟩
      refine ⟨_, rfl, a, _, rfl, .inl (SqL.of ha), _, _, rfl, rfl, ?_⟩
      have z := q H (L2.Same.refl H)
      rw [Mi.none_nodup hk hS hn] at z
      rw [List.length_map] at hm1 hm2 ⊢
      have e : decide ((m : Int) < (ns.length : Int)) = !decide ns.Nodup := by
        by_cases c : ns.Nodup
        · have := hm1 ((nodup_int ns).mpr c)
          rw [decide_eq_true c, decide_eq_false (by omega)]
          rfl
        · have := hm2 (fun d => c ((nodup_int ns).mp d))
          rw [decide_eq_false c, decide_eq_true (by omega)]
          rfl
      show Q (.bl (decide ((m : Int) < (ns.length : Int)))) H
      rw [e]
      exact z
/-! normal: slots 0 kind, 1 points, 2 segments, 3 ordered -/
abbrev s_normal : Stmt := topS 13
abbrev N_normal : List Str := ["kind", "points", "segments", "ordered"]
theorem sc_normal : FnScope N_normal ["kind", "points"] (defScope s_normal) := C8.fnScope_by (by decide +kernel)
def sp_normal : Sp := fun vs H Q _ => ∃ (k : Nat) (a : Addr) (ns : List Nat) (g : Fact), vs = [vN k, .ref a] ∧ LN H a ns ∧ k < 7 ∧ Kh375.normalize ⟨k, ns⟩ = some g ∧ ∀ H' p, L2.Same H H' → H p = none → H' p = some (.tup (fV g)) → Q (.ref p) H'
theorem c_normal (T : Txt K mg A) : C8.Cal P w K mg base 2 "normal" sp_normal [] := by
  obtain ⟨f, fd, F, b⟩ := T.d_normal.ex
  refine C8.cal0 F b .nil sc_normal ?_ ?_
  · rintro vs H Q E ⟨k, a, ns, g, rfl, _⟩
    rfl
  · rintro cdv _ outer s H vs Q E hr ⟨k, a, ns, g, rfl, ha, hk, hg, q⟩
    refine ⟨_, (pss_cons (ps_if (pt_val (C8.pe_c (c_has_segments T) hr (by decide) rfl (pa_cons (pv 0) pa_nil))) (pss_cons (ps_set (i := 2) sc_normal.nd rfl (Or.inl rfl) (pe_callB (cr_sortLs (hu70 hr)) rfl T.n_sorted (by decide +kernel) (pa_cons (pe_lst (pa_cons (pe_callB cr_sortedI rfl T.n_sorted (by decide +kernel) (pa_cons (pe_slice sl_list (pv 1) po_none (po_some pe_int)) pa_nil)) (pa_cons (pe_callB cr_sortedI rfl T.n_sorted (by decide +kernel) (pa_cons (pe_slice sl_list (pv 1) (po_some pe_int) po_none) pa_nil)) pa_nil))) pa_nil)))
        (pss_one (ps_ret (pe_tup (pa_cons (pv 0) (pa_cons (pe_ix ix_list (pe_ix ix_list (pv 2) pe_int (fun _ _ => rfl)) pe_int (fun _ _ => rfl)) (pa_cons (pe_ix ix_list (pe_ix ix_list (pv 2) pe_int (fun _ _ => rfl)) pe_int (fun _ _ => rfl)) (pa_cons (pe_ix ix_list (pe_ix ix_list (pv 2) pe_int (fun _ _ => rfl)) pe_int (fun _ _ => rfl)) (pa_cons (pe_ix ix_list (pe_ix ix_list (pv 2) pe_int (fun _ _ => rfl)) pe_int (fun _ _ => rfl)) pa_nil))))))))) pss_nil)
        (pss_cons (ps_if (pt_cmpR op_eq (pv 0) (C8.pe_gc rfl T.g_MIDPOINT) (nomark _)) (pss_one (ps_ret (pe_tup (pa_cons (pv 0) (pa_cons (pe_ix ix_list (pv 1) pe_int (fun _ _ => rfl)) (pa_cons (pe_callB (cr_min rfl) rfl T.n_min (by decide +kernel) (pa_cons (pe_slice sl_list (pv 1) (po_some pe_int) po_none) pa_nil)) (pa_cons (pe_callB (cr_max rfl) rfl T.n_max (by decide +kernel) (pa_cons (pe_slice sl_list (pv 1) (po_some pe_int) po_none) pa_nil)) pa_nil))))))) pss_nil)
        (pss_cons (ps_set (i := 3) sc_normal.nd rfl (Or.inl rfl) (pe_callB cr_sortedI rfl T.n_sorted (by decide +kernel) (pa_cons (pv 1) pa_nil)))
        (pss_cons (ps_if (pt_cmpR op_eq (pe_callB call_len_seq rfl T.n_len PySem.boot_len (pa_cons (pv 3) pa_nil)) pe_int (nomark _)) (pss_one (ps_ret (pe_tup (pa_cons (pv 0) (pa_cons (pe_ix ix_list (pv 3) pe_int (fun _ _ => rfl)) (pa_cons (pe_ix ix_list (pv 3) pe_int (fun _ _ => rfl)) (pa_cons (pe_ix ix_list (pv 3) pe_int (fun _ _ => rfl)) pa_nil))))))) pss_nil)
        (pss_one (ps_ret (pe_tup (pa_cons (pv 0) (pa_cons (pe_ix ix_list (pv 3) pe_int (fun _ _ => rfl)) (pa_cons (pe_ix ix_list (pv 3) pe_int (fun _ _ => rfl)) (pa_cons (pe_ix ix_list (pv 3) pe_int (fun _ _ => rfl)) (pa_cons (pe_ix ix_list (pv 3) pe_int (fun _ _ => rfl)) pa_nil)))))))))))), ?_⟩
    rcases Mi.norm_cases hk hg with ⟨x0, x1, x2, hkk, hns, nd, rfl⟩ | ⟨x0, x1, x2, x3, hkk, hns, nd, rfl⟩ | ⟨x0, x1, x2, hkk, hns, nd, rfl⟩ | ⟨x0, x1, x2, x3, l, hkk, hns, hl, rfl⟩ <;> dsimp only at hkk hns ⊢ <;> subst hns
    · -- three points
      have S : SqL K H a (([x0, x1, x2] : List Int).map V.int) := SqL.of ha
      have hno : Mi.hasSegs k = false := by rcases hkk with rfl | rfl <;> rfl
      have h4 : ¬ decide (vN k = V.int 4) = true := by rcases hkk with rfl | rfl <;> decide
      refine ⟨_, rfl, k, rfl, _, rfl, ?_⟩
      rw [hno]
      refine iteF ?_
      refine ⟨_, rfl, rfl, _, rfl, ite2 (fun h => absurd h h4) fun _ => ?_⟩
      refine ⟨_, rfl, a, _, rfl, S, fun s1 p1 pm up np1 => ?_⟩
      have hs1 := sorted_is (ns := [x0, x1, x2]) pm up
      subst hs1
      obtain ⟨y0, y1, y2, e, _⟩ := Mi.sorted3_lt nd
      rw [e] at q ⊢
      have S1 : SqL K (upd H p1 (.lst (([y0, y1, y2] : List Int).map V.int))) p1 [vN y0, vN y1, vN y2] := SqL.of upd_same
      refine ⟨_, rfl, p1, _, rfl, .inl S1, rfl, _, rfl, iteT ?_⟩
      refine ⟨_, rfl, _, rfl, p1, _, _, _, rfl, rfl, S1, rfl, _, rfl, p1, _, _, _, rfl, rfl, S1, rfl, _, rfl, p1, _, _, _, rfl, rfl, S1, rfl, (by show 4 ≤ sizeLine; decide), fun p2 np2 => ?_⟩
      have m1 := L2.Same.new (o := .lst (([y0, y1, y2] : List Int).map V.int)) np1
      exact q _ p2 (m1.trans (L2.Same.new np2)) (m1.free np2) upd_same
    · have S : SqL K H a (([x0, x1, x2, x3] : List Int).map V.int) := SqL.of ha
      subst hkk
      refine ⟨_, rfl, 5, rfl, _, rfl, iteF ?_⟩
      refine ⟨_, rfl, rfl, _, rfl, iteF ?_⟩
      refine ⟨_, rfl, a, _, rfl, S, fun s1 p1 pm up np1 => ?_⟩
      have hs1 := sorted_is (ns := [x0, x1, x2, x3]) pm up
      subst hs1
      obtain ⟨y0, y1, y2, y3, e, _⟩ := Mi.sorted4_lt nd
      rw [e] at q ⊢
      have S1 : SqL K (upd H p1 (.lst (([y0, y1, y2, y3] : List Int).map V.int))) p1 [vN y0, vN y1, vN y2, vN y3] := SqL.of upd_same
      refine ⟨_, rfl, p1, _, rfl, .inl S1, rfl, _, rfl, iteF ?_⟩
      refine ⟨_, rfl, _, rfl, p1, _, _, _, rfl, rfl, S1, rfl, _, rfl, p1, _, _, _, rfl, rfl, S1, rfl, _, rfl, p1, _, _, _, rfl, rfl, S1, rfl, _, rfl, p1, _, _, _, rfl, rfl, S1, rfl, (by show 5 ≤ sizeLine; decide), fun p2 np2 => ?_⟩
      have m1 := L2.Same.new (o := .lst (([y0, y1, y2, y3] : List Int).map V.int)) np1
      exact q _ p2 (m1.trans (L2.Same.new np2)) (m1.free np2) upd_same
    · have S : SqL K H a [vN x0, vN x1, vN x2] := SqL.of ha
      subst hkk
      refine ⟨_, rfl, 4, rfl, _, rfl, iteF ?_⟩
      refine ⟨_, rfl, rfl, _, rfl, iteT ?_⟩
      refine ⟨_, rfl, _, rfl, a, _, _, _, rfl, rfl, S, rfl, ?_⟩
      refine ⟨_, rfl, _, rfl, a, _, rfl, S, fun p1 np1 => ⟨p1, [x1, x2], rfl, SqL.of upd_same, Nat.succ_pos _, fun m hm hle => ?_⟩⟩
      have m1 := L2.Same.new (o := .lst (cutV [vN x0, vN x1, vN x2] (some 1) none)) np1
      refine ⟨_, rfl, _, rfl, a, _, rfl, m1.seq S, fun p2 np2 => ⟨p2, [x1, x2], rfl, SqL.of upd_same, Nat.succ_pos _, fun M hM hge => ?_⟩⟩
      have m2 := L2.Same.new (o := .lst (cutV [vN x0, vN x1, vN x2] (some 1) none)) np2
      refine ⟨(by show 4 ≤ sizeLine; decide), fun p3 np3 => ?_⟩
      have em : fV ⟨4, x0 :: Kh375.sorted [x1, x2]⟩ = [vN 4, vN x0, V.int m, V.int M] := by
        have h1 := hle x1 (by simp)
        have h2 := hle x2 (by simp)
        have h3 := hge x1 (by simp)
        have h4 := hge x2 (by simp)
        simp only [List.mem_cons, List.not_mem_nil, or_false] at hm hM
        rw [Mi.sorted2]
        unfold fV vN
        by_cases c : x1 ≤ x2
        · rw [if_pos c]
          have e1 : m = (x1 : Int) := by omega
          have e2 : M = (x2 : Int) := by omega
          rw [e1, e2]
          rfl
        · rw [if_neg c]
          have e1 : m = (x2 : Int) := by omega
          have e2 : M = (x1 : Int) := by omega
          rw [e1, e2]
          rfl
      exact q _ p3 ((m1.trans m2).trans (L2.Same.new np3)) ((m1.trans m2).free np3) (by rw [em]; exact upd_same)
    · have S : SqL K H a [vN x0, vN x1, vN x2, vN x3] := SqL.of ha
      obtain ⟨n1, n2, n3, rfl⟩ := (Mi.segs_eq _ _ _ _ _).mp hl
      refine ⟨_, rfl, k, rfl, _, rfl, ?_⟩
      rw [kind_segs hkk]
      refine iteT ?_
      obtain ⟨y0, y1, e1, l1⟩ := Mi.sorted2_lt n1
      obtain ⟨y2, y3, e2, l2⟩ := Mi.sorted2_lt n2
      rw [e1, e2] at n3 q
      refine ⟨_, rfl, _, rfl, a, _, rfl, S, fun p1 np1 => ?_⟩
      (generalize hgen : upd _ _ _ = H1; have m1 := grow_same hgen np1; have t1 := grow_at hgen; clear hgen)
      refine ⟨p1, [x0, x1], rfl, SqL.of t1, fun s1 p2 pm1 up1 np2 => ?_⟩
      have hs1 := sorted_is (ns := [x0, x1]) pm1 up1
      rw [e1] at hs1
      subst hs1
      (generalize hgen : upd _ _ _ = H2; have m2 := grow_same hgen np2; have t2 := grow_at hgen; clear hgen)
      refine ⟨_, rfl, _, rfl, a, _, rfl, (m1.trans m2).seq S, fun p3 np3 => ?_⟩
      (generalize hgen : upd _ _ _ = H3; have m3 := grow_same hgen np3; have t3 := grow_at hgen; clear hgen)
      refine ⟨p3, [x2, x3], rfl, SqL.of t3, fun s2 p4 pm2 up2 np4 => ?_⟩
      have hs2 := sorted_is (ns := [x2, x3]) pm2 up2
      rw [e2] at hs2
      subst hs2
      (generalize hgen : upd _ _ _ = H4; have m4' := grow_same hgen np4; have t4 := grow_at hgen; clear hgen)
      refine ⟨(by show 2 ≤ sizeLine; decide), fun p5 np5 => ?_⟩
      (generalize hgen : upd _ _ _ = H5; have m5' := grow_same hgen np5; have T5 := grow_at hgen; clear hgen)
      have m4 := (((m1.trans m2).trans m3).trans m4').trans m5'
      have T4 := m5' _ _ t4
      have T2 := m5' _ _ (m4' _ _ (m3 _ _ t2))
      refine ⟨p5, [(p2, [(y0 : Int), (y1 : Int)]), (p4, [(y2 : Int), (y3 : Int)])], rfl, SqL.of T5, fun b hb => ?_, fun p6 np6 => ?_⟩
      · simp only [List.mem_cons, List.not_mem_nil, or_false] at hb
        rcases hb with rfl | rfl
        · exact SqL.of T2
        · exact SqL.of T4
      have m5 := L2.Same.new (o := .lst (([(p2, [(y0 : Int), (y1 : Int)]), (p4, [(y2 : Int), (y3 : Int)])].mergeSort fun p q => decide (p.2 ≤ q.2)).map fun b : Addr × List Int => V.ref b.1)) np6
      have m6 := m4.trans m5
      have U2 := m5 _ _ T2
      have U4 := m5 _ _ T4
      rw [ms2] at m5 m6 U2 U4 ⊢
      by_cases c : ([(y0 : Int), (y1 : Int)] : List Int) ≤ [(y2 : Int), (y3 : Int)]
      · rw [if_pos (decide_eq_true c)] at m5 m6 U2 U4 ⊢
        have S2 : SqL K (upd H5 p6 (.lst [.ref p2, .ref p4])) p2 [vN y0, vN y1] := SqL.of U2
        have S4 : SqL K (upd H5 p6 (.lst [.ref p2, .ref p4])) p4 [vN y2, vN y3] := SqL.of U4
        have S6 : SqL K (upd H5 p6 (.lst [.ref p2, .ref p4])) p6 [.ref p2, .ref p4] := SqL.of upd_same
        refine ⟨_, rfl, _, rfl, p6, _, _, _, rfl, rfl, S6, rfl, p2, _, _, _, rfl, rfl, S2, rfl, _, rfl, p6, _, _, _, rfl, rfl, S6, rfl, p2, _, _, _, rfl, rfl, S2, rfl,
          _, rfl, p6, _, _, _, rfl, rfl, S6, rfl, p4, _, _, _, rfl, rfl, S4, rfl, _, rfl, p6, _, _, _, rfl, rfl, S6, rfl, p4, _, _, _, rfl, rfl, S4, rfl, (by show 5 ≤ sizeLine; decide), fun p7 np7 => ?_⟩
        rw [lex_of_le c n3] at q
        exact q _ p7 (m6.trans (L2.Same.new np7)) (m6.free np7) upd_same
      · rw [if_neg (fun z => c (of_decide_eq_true z))] at m5 m6 U2 U4 ⊢
        have S2 : SqL K (upd H5 p6 (.lst [.ref p4, .ref p2])) p2 [vN y0, vN y1] := SqL.of U2
        have S4 : SqL K (upd H5 p6 (.lst [.ref p4, .ref p2])) p4 [vN y2, vN y3] := SqL.of U4
        have S6 : SqL K (upd H5 p6 (.lst [.ref p4, .ref p2])) p6 [.ref p4, .ref p2] := SqL.of upd_same
        refine ⟨_, rfl, _, rfl, p6, _, _, _, rfl, rfl, S6, rfl, p4, _, _, _, rfl, rfl, S4, rfl, _, rfl, p6, _, _, _, rfl, rfl, S6, rfl, p4, _, _, _, rfl, rfl, S4, rfl,
          _, rfl, p6, _, _, _, rfl, rfl, S6, rfl, p2, _, _, _, rfl, rfl, S2, rfl, _, rfl, p6, _, _, _, rfl, rfl, S6, rfl, p2, _, _, _, rfl, rfl, S2, rfl, (by show 5 ≤ sizeLine; decide), fun p7 np7 => ?_⟩
        rw [lex_of_gt c] at q
        exact q _ p7 (m6.trans (L2.Same.new np7)) (m6.free np7) upd_same
end
end G
set_option Elab.async false
set_option maxRecDepth 100000
set_option maxHeartbeats 4000000
namespace G
open PySem PySem.Spec PyProof.Rows L2
open Kh375 (Fact Rule)
theorem six_shape {o : List Nat} (h : o ∈ Mi.sixOrders) : ∃ a b c, o = [a, b, c] ∧ a < 3 ∧ b < 3 ∧ c < 3 := by
  simp only [Mi.sixOrders, List.mem_cons, List.not_mem_nil, or_false] at h
  rcases h with rfl | rfl | rfl | rfl | rfl | rfl <;> exact ⟨_, _, _, rfl, by decide, by decide, by decide⟩
theorem rest_len {i : Nat} (h : i < 4) : (Mi.restOf i).length = 3 := by
  have : i = 0 ∨ i = 1 ∨ i = 2 ∨ i = 3 := by omega
  rcases this with rfl | rfl | rfl | rfl <;> decide
theorem four_len {i : Nat} (h : i ≤ 4) : ((List.range i).flatMap fun last => Mi.sixOrders.map (Mi.fourRow last)).length = i * 6 := by
  have : i = 0 ∨ i = 1 ∨ i = 2 ∨ i = 3 ∨ i = 4 := by omega
  rcases this with rfl | rfl | rfl | rfl | rfl <;> rfl
section
variable {P : Program} {w : World} {K : PySem.W.Frag} {mg : Str → Option Value} {base : Heap} {A : Ad}
/-! four_orders: slots 0 found, 1 last, 2 order, 3 rest, 4 place -/
abbrev s_four_orders : Stmt := topS 14
abbrev N_four_orders : List Str := ["found", "last", "order", "rest", "place"]
theorem sc_four_orders : FnScope N_four_orders [] (defScope s_four_orders) := C8.fnScope_by (by decide +kernel)
def sp_four_orders (K : PySem.W.Frag) : Sp := fun vs H Q _ => vs = [] ∧ ∀ H' p us, L2.Same H H' → H p = none → H' p = some (.lst us) → OrdL K H' us Mi.fourOrders → Q (.ref p) H'
theorem c_four_orders (T : Txt K mg A) : C8.Cal P w K mg base 1 "four_orders" (sp_four_orders K) [] := by
  obtain ⟨f, fd, F, b⟩ := T.d_four_orders.ex
  refine C8.cal0 F b .nil sc_four_orders ?_ ?_
  · rintro vs H Q E ⟨rfl, _⟩
    rfl
  · rintro cdv _ outer s H vs Q E hr ⟨rfl, q⟩
    obtain ⟨v6, h6⟩ := T.six
    refine ⟨_, (pss_cons (ps_set (i := 0) sc_four_orders.nd rfl (Or.inl rfl) (pe_lst pa_nil))
        (pss_cons (ps_for PassesOwn.never rfl (pi_range1 rfl T.n_range (pa_cons pe_int pa_nil)) (pg_name (i := 1) sc_four_orders.nd rfl (Or.inr rfl))
        (pss_one (ps_for PassesOwn.never rfl (pi_tup (C8.pe_gc rfl T.g_SIX_ORDERS)) (pg_name (i := 2) sc_four_orders.nd rfl (Or.inl rfl))
        (pss_cons (ps_setLc (i := 3) (own := [("place", 4)]) (g := gName 4) (by rfl) sc_four_orders.nd rfl rfl (sw_true rfl rfl rfl (by decide +kernel)) (pi_range1 rfl T.n_range (pa_cons pe_int pa_nil)) (blkOk_by (own := [("place", 4)]) (N := N_four_orders) (sc := defScope s_four_orders) (by decide +kernel)) (fun _ _ _ _ _ => pg_name (i := 4) sc_four_orders.nd rfl (Or.inl rfl)) (fun _ _ _ _ _ => (pts_one (pt_cmpR op_ne (pv 4) (pv 1) (nomark _)))) (fun _ _ _ _ _ => (pv 4)))
        (pss_one (ps_expr (pe_bm PySem.F.plainAttrs_list PySem.F.slot_list_append PySem.F.type_list_append mt_append (pv 0) (pa_cons (pe_tup (pa_cons (pe_ix ix_list (pv 3) (pe_ix ix_tup (pv 2) pe_int (fun _ _ => rfl)) (fun _ _ => rfl)) (pa_cons (pe_ix ix_list (pv 3) (pe_ix ix_tup (pv 2) pe_int (fun _ _ => rfl)) (fun _ _ => rfl)) (pa_cons (pe_ix ix_list (pv 3) (pe_ix ix_tup (pv 2) pe_int (fun _ _ => rfl)) (fun _ _ => rfl)) (pa_cons (pv 1) pa_nil))))) pa_nil))))))))
        (pss_one (ps_ret (pv 0))))), ?_⟩
    refine ⟨Nat.zero_le _, fun l nl => ?_⟩
    (generalize hgen : upd _ _ _ = H1; have m1 := grow_same hgen nl; have t1 := grow_at hgen; clear hgen)
    refine ⟨4, rfl, by decide, by decide, for_range (lo := 0) (n := 4) (fun i σ Hc => ∃ x1 x2 x3, σ = [some (.ref l), x1, x2, x3, none] ∧ L2.Same H Hc ∧ ∃ us, Hc l = some (.lst us) ∧ OrdL K Hc us ((List.range i).flatMap fun last => Mi.sixOrders.map (Mi.fourRow last)))
      ⟨none, none, none, rfl, m1, [], t1, .nil⟩ ?_ ?_⟩
    · rintro i σ Hc hi ⟨x1, x2, x3, rfl, sm, us, hl, hu⟩
      refine ⟨A.six, rfl, ⟨v6, (h6 _).1⟩, for_tup (K := K) (a := A.six) (xs := v6) (fun j σ Hc => ∃ x2 x3, σ = [some (.ref l), some (vN i), x2, x3, none] ∧ L2.Same H Hc ∧ ∃ us, Hc l = some (.lst us) ∧
        OrdL K Hc us (((List.range i).flatMap fun last => Mi.sixOrders.map (Mi.fourRow last)) ++ (Mi.sixOrders.take j).map (Mi.fourRow i)))
        ⟨x2, x3, (by show [some (V.ref l), some (V.int (0 + (i : Int))), x2, x3, none] = _; rw [Int.zero_add]), sm, us, hl, (by simpa using hu)⟩ (fun j σ Hc _ _ => (h6 Hc).1) ?_ ?_⟩
      · rintro j x σ Hc hx ⟨x2, x3, rfl, sm, us, hl, hu⟩
        obtain ⟨o, ho, ao, rfl, so⟩ := paired_at (h6 Hc).2 hx
        obtain ⟨a, b, c, rfl, la, lb, lc⟩ := six_shape (List.mem_of_getElem? ho)
        -- rest
        refine ⟨4, rfl, by decide, by decide, fun D nD => lc_range (lo := 0) (n := 4) (fun t Hx => L2.Same Hc Hx ∧ Hx D = some (.lst (((List.range t).filter (· ≠ i)).map vN))) ⟨L2.Same.new nD, upd_same⟩ ?_ ?_⟩
        · rintro t Hx ht ⟨s2, hD⟩
          refine ⟨rfl, _, rfl, _, rfl, rfl, _, rfl, ite2 (fun h => ?_) fun h => ?_⟩
          · refine ⟨_, rfl, _, hD, ?_, s2.mut nD, ?_⟩
            · refine small_line ?_
              rw [List.length_map]
              exact Nat.lt_of_le_of_lt (List.length_filter_le _ _) (by rw [List.length_range]; omega)
            · have e : (t ≠ i) := fun z => by subst z; simp at h
              rw [upd_same, List.range_succ, List.filter_append]
              simp [e]
          · refine ⟨s2, ?_⟩
            have e : t = i := by
              simp at h
              omega
            rw [hD, List.range_succ, List.filter_append]
            simp [e]
        · rintro Hx ⟨s2, hD⟩
          have SD : SqL K Hx D ((Mi.restOf i).map vN) := SqL.of hD
          have r3 := rest_len hi
          have hl2 := s2 _ _ hl
          have so2 : SqT K Hx ao [vN a, vN b, vN c] := s2.sqt so
          refine ⟨_, rfl, .inl ⟨rfl, _, SqL.of hl2⟩, ?_⟩
          refine ⟨_, rfl, _, rfl, ao, _, _, _, rfl, rfl, so2, rfl, D, _, _, _, rfl, rfl, SD, at_nat (by omega), _, rfl, _, rfl, ao, _, _, _, rfl, rfl, so2, rfl, D, _, _, _, rfl, rfl, SD, at_nat (by omega),
            _, rfl, _, rfl, ao, _, _, _, rfl, rfl, so2, rfl, D, _, _, _, rfl, rfl, SD, at_nat (by omega), _, rfl, (by show 4 ≤ sizeLine; decide), fun p np => ?_⟩
          (generalize hgen : upd _ _ _ = Hy; have m3 := grow_same hgen np; have t3 := grow_at hgen; clear hgen)
          have hl3 := m3 _ _ hl2
          have ln := hu.length
          refine ⟨l, us, .ref p, rfl, rfl, hl3, ?_, ?_⟩
          · refine small_line ?_
            rw [ln, List.length_append, List.length_map, four_len (by omega)]
            have e6 : (Mi.sixOrders.take j).length ≤ 6 := by
              rw [List.length_take]
              exact Nat.min_le_right _ _
            omega
          · refine ⟨some (.ref ao), some (.ref D), rfl, ((sm.trans s2).trans m3).mut nl, us ++ [.ref p], upd_same, ?_⟩
            rw [take_snoc ho, List.map_append, ← List.append_assoc]
            refine Paired.snoc (ordl_upd hl3 ((s2.trans m3).ordl hu)) ⟨p, rfl, sqt_upd hl3 (SqT.of ?_)⟩
            rw [t3]
            rfl
      · rintro σ Hc ⟨x2, x3, rfl, sm, us, hl, hu⟩
        refine ⟨some (vN i), x2, x3, rfl, sm, us, hl, ?_⟩
        have e6 : v6.length = Mi.sixOrders.length := (h6 Hc).2.length
        rw [e6, List.take_length] at hu
        rw [List.range_succ, List.flatMap_append]
        simpa using hu
    · rintro σ Hc ⟨x1, x2, x3, rfl, sm, us, hl, hu⟩
      exact ⟨_, rfl, q Hc l us sm nl hl hu⟩
/-! orders_of: slots 0 kind -/
abbrev s_orders_of : Stmt := topS 15
abbrev N_orders_of : List Str := ["kind"]
theorem sc_orders_of : FnScope N_orders_of ["kind"] (defScope s_orders_of) := C8.fnScope_by (by decide +kernel)
def sp_orders_of (K : PySem.W.Frag) : Sp := fun vs H Q _ => ∃ k : Nat, vs = [vN k] ∧ k < 7 ∧ ∀ H' p us, L2.Same H H' → H p = none → H' p = some (.lst us) → OrdL K H' us (Mi.ordersOf k) → Q (.ref p) H'
theorem c_orders_of (T : Txt K mg A) : C8.Cal P w K mg base 2 "orders_of" (sp_orders_of K) [] := by
  obtain ⟨f, fd, F, b⟩ := T.d_orders_of.ex
  refine C8.cal0 F b .nil sc_orders_of ?_ ?_
  · rintro vs H Q E ⟨k, rfl, _⟩
    rfl
  · rintro cdv _ outer s H vs Q E hr ⟨k, rfl, hk, q⟩
    obtain ⟨v6, h6⟩ := T.six
    obtain ⟨v8, h8⟩ := T.pair
    refine ⟨_, (pss_cons (ps_if (pt_val (C8.pe_c (c_has_segments T) hr (by decide) rfl (pa_cons (pv 0) pa_nil))) (pss_one (ps_ret (pe_callTy call_list_of rfl T.n_list (by decide +kernel) (pa_cons (C8.pe_gc rfl T.g_PAIR_ORDERS) pa_nil)))) pss_nil)
        (pss_cons (ps_if (pt_cmpR op_eq (pv 0) (C8.pe_gc rfl T.g_MIDPOINT) (nomark _)) (pss_one (ps_ret (pe_lst (pa_cons (pe_tup (pa_cons pe_int (pa_cons pe_int (pa_cons pe_int pa_nil)))) (pa_cons (pe_tup (pa_cons pe_int (pa_cons pe_int (pa_cons pe_int pa_nil)))) pa_nil))))) pss_nil)
        (pss_one (ps_ret (pe_ifExp (pt_cmpR op_eq (pv 0) (C8.pe_gc rfl T.g_CONCYCLIC) (nomark _)) (pe_c0 (c_four_orders T) hr (by decide) rfl) (pe_callTy call_list_of rfl T.n_list (by decide +kernel) (pa_cons (C8.pe_gc rfl T.g_SIX_ORDERS) pa_nil))))))), ?_⟩
    refine ⟨_, rfl, k, rfl, _, rfl, ite2 (fun h => ?_) fun h => ?_⟩
    · refine ⟨A.pair, v8, rfl, .inr (h8 H).1, fun l nl => q _ l v8 (L2.Same.new nl) nl upd_same ?_⟩
      unfold Mi.ordersOf
      rw [if_pos h]
      exact (L2.Same.new nl).ordl (h8 H).2
    · refine ⟨_, rfl, rfl, _, rfl, ite2 (fun h4 => ?_) fun h4 => ?_⟩
      · have k4 : k = 4 := dec_vN (b := 4) |>.mp h4
        subst k4
        refine ⟨(by show 3 ≤ sizeLine; decide), fun p1 n1 => ?_⟩
        (generalize hgen : upd _ _ _ = H1; have m1 := grow_same hgen n1; have t1 := grow_at hgen; clear hgen)
        refine ⟨(by show 3 ≤ sizeLine; decide), fun p2 n2 => ?_⟩
        (generalize hgen : upd _ _ _ = H2; have m2 := grow_same hgen n2; have t2 := grow_at hgen; clear hgen)
        refine ⟨(by show 2 ≤ sizeLine; decide), fun p3 n3 => ?_⟩
        (generalize hgen : upd _ _ _ = H3; have m3 := grow_same hgen n3; have t3 := grow_at hgen; clear hgen)
        refine q H3 p3 _ ((m1.trans m2).trans m3) ((m1.trans m2).free n3) t3 (.cons ⟨p1, rfl, SqT.of (m3 _ _ (m2 _ _ t1))⟩ (.cons ⟨p2, rfl, SqT.of (m3 _ _ t2)⟩ .nil))
      · refine ⟨_, rfl, rfl, _, rfl, ite2 (fun h5 => ?_) fun h5 => ?_⟩
        · have k5 : k = 5 := dec_vN (b := 5) |>.mp h5
          subst k5
          exact ⟨rfl, fun H' p us s1 f1 e1 o1 => q H' p us s1 f1 e1 o1⟩
        · refine ⟨A.six, v6, rfl, .inr (h6 H).1, fun l nl => q _ l v6 (L2.Same.new nl) nl upd_same ?_⟩
          have n4 : ¬ k = 4 := fun z => h4 (dec_vN (b := 4) |>.mpr z)
          have n5 : ¬ k = 5 := fun z => h5 (dec_vN (b := 5) |>.mpr z)
          unfold Mi.ordersOf
          rw [if_neg h, if_neg n4, if_neg n5]
          exact (L2.Same.new nl).ordl (h6 H).2
/-! readings: slots 0 fact, 1 found, 2 order, 3 row, 4 place -/
abbrev s_readings : Stmt := topS 16
abbrev N_readings : List Str := ["fact", "found", "order", "row", "place"]
theorem sc_readings : FnScope N_readings ["fact"] (defScope s_readings) := C8.fnScope_by (by decide +kernel)
def sp_readings : Sp := fun vs H Q _ => ∃ (v : V) (f : Fact), vs = [v] ∧ Tp H v f ∧ Mi.NF f ∧ ∀ H' p us, L2.Same H H' → H p = none → H' p = some (.lst us) → Paired (Tp H') us (Mi.readings f) → Q (.ref p) H'
theorem c_readings (T : Txt K mg A) : C8.Cal P w K mg base 3 "readings" sp_readings [] := by
  obtain ⟨f, fd, F, b⟩ := T.d_readings.ex
  refine C8.cal0 F b .nil sc_readings ?_ ?_
  · rintro vs H Q E ⟨v, f, rfl, _⟩
    rfl
  · rintro cdv _ outer s H vs Q E hr ⟨_, f, rfl, ⟨af, rfl, hf⟩, nf, q⟩
    refine ⟨_, (pss_cons (ps_set (i := 1) sc_readings.nd rfl (Or.inl rfl) (pe_lst pa_nil))
        (pss_cons (ps_for PassesOwn.never rfl (pi_list (C8.pe_c (c_orders_of T) hr (by decide) rfl (pa_cons (pe_ix ix_tup (pv 0) pe_int (fun _ _ => rfl)) pa_nil))) (pg_name (i := 2) sc_readings.nd rfl (Or.inl rfl))
        (pss_cons (ps_set (i := 3) sc_readings.nd rfl (Or.inl rfl) (pe_lst (pa_cons (pe_ix ix_tup (pv 0) pe_int (fun _ _ => rfl)) pa_nil)))
        (pss_cons (ps_for PassesOwn.never rfl (pi_tup (pv 2)) (pg_name (i := 4) sc_readings.nd rfl (Or.inl rfl))
        (pss_one (ps_expr (pe_bm PySem.F.plainAttrs_list PySem.F.slot_list_append PySem.F.type_list_append mt_append (pv 3) (pa_cons (pe_ix ix_tup (pv 0) (pe_op op_add pe_int (pv 4)) (fun _ _ => rfl)) pa_nil)))))
        (pss_one (ps_expr (pe_bm PySem.F.plainAttrs_list PySem.F.slot_list_append PySem.F.type_list_append mt_append (pv 1) (pa_cons (pe_callTy call_tuple_of rfl T.n_tuple (by decide +kernel) (pa_cons (pv 3) pa_nil)) pa_nil)))))))
        (pss_one (ps_ret (pv 1))))), ?_⟩
    have S0 : ∀ {Hc}, L2.Same H Hc → SqT K Hc af (fV f) := fun sm => SqT.of (sm _ _ hf)
    refine ⟨Nat.zero_le _, fun l nl => ?_⟩
    (generalize hgen : upd _ _ _ = H1; have m1 := grow_same hgen nl; have t1 := grow_at hgen; clear hgen)
    refine ⟨_, rfl, af, _, _, _, rfl, rfl, S0 m1, fV_at0 f, f.kind, rfl, nf.kind, fun H2 po uo m2 fo to ho => ?_⟩
    have npl : po ≠ l := Ne.symm (ne_of_none t1 fo)
    refine ⟨po, rfl, ⟨uo, SqL.of to⟩, for_list (K := K) (a := po) (xs := uo) (fun i σ Hc => ∃ x2 x3 x4, σ = [some (.ref af), some (.ref l), x2, x3, x4] ∧ L2.Same H Hc ∧ Hc po = some (.lst uo) ∧ OrdL K Hc uo (Mi.ordersOf f.kind) ∧ ∃ us, Hc l = some (.lst us) ∧ Paired (Tp Hc) us (((Mi.ordersOf f.kind).take i).map (Mi.reading f)))
      ⟨none, none, none, rfl, m1.trans m2, to, ho, [], m2 _ _ t1, .nil⟩ (fun i σ Hc _ ⟨_, _, _, _, _, z, _⟩ => SqL.of z) ?_ ?_⟩
    · rintro i x σ Hc hx ⟨x2, x3, x4, rfl, sm, hpo, hou, us, hl, hu⟩
      obtain ⟨o, hoi, ao, rfl, so⟩ := paired_at hou hx
      have hoL := Mi.order_ok nf (List.mem_of_getElem? hoi)
      -- row = [fact[0]]
      refine ⟨_, rfl, af, _, _, _, rfl, rfl, S0 sm, fV_at0 f, (by show 1 ≤ sizeLine; decide), fun r nr => ?_⟩
      (generalize hgen : upd _ _ _ = H3; have m3 := grow_same hgen nr; have t3 := grow_at hgen; clear hgen)
      have nrl : r ≠ l := Ne.symm (ne_of_none hl nr)
      have nrp : r ≠ po := Ne.symm (ne_of_none hpo nr)
      -- for place in order
      refine ⟨_, rfl, ao, rfl, ⟨_, m3.sqt so⟩, for_tup (K := K) (a := ao) (xs := o.map vN) (fun j σ H4 => ∃ x4, σ = [some (.ref af), some (.ref l), some (.ref ao), some (.ref r), x4] ∧ L2.Same Hc H4 ∧ H4 r = some (.lst ((f.kind :: (o.take j).map fun p => f.points.getD p 0).map vN)))
        ⟨x4, rfl, m3, t3⟩ (fun j σ H4 _ ⟨_, _, s4, _⟩ => s4.sqt so) ?_ ?_⟩
      · rintro j y σ H4 hy ⟨x4, rfl, s4, hr4⟩
        obtain ⟨p, hp, rfl⟩ := map_get hy
        have lp : p < f.points.length := hoL.2 p (List.mem_of_getElem? hp)
        have lo : o.length ≤ 4 := hoL.1
        refine ⟨_, rfl, .inl ⟨rfl, _, SqL.of hr4⟩, _, rfl, _, rfl, _, _, rfl, rfl, af, _, _, _, rfl, rfl, S0 (sm.trans s4), fV_atS f lp, r, _, _, rfl, rfl, hr4, ?_, ?_⟩
        · refine small_line ?_
          rw [List.length_map, List.length_cons, List.length_map, List.length_take]
          omega
        · refine ⟨_, rfl, s4.mut nr, ?_⟩
          rw [upd_same, take_snoc hp]
          simp
      · rintro σ H4 ⟨x4, rfl, s4, hr4⟩
        rw [List.length_map, List.take_length] at hr4
        have hl4 := s4 _ _ hl
        have hp4 := s4 _ _ hpo
        refine ⟨_, rfl, .inl ⟨rfl, _, SqL.of hl4⟩, _, rfl, r, _, rfl, .inl ⟨SqL.of hr4, fun tp ntp => ?_⟩⟩
        (generalize hgen : upd _ _ _ = H5; have m5 := grow_same hgen ntp; have t5 := grow_at hgen; clear hgen)
        have hl5 := m5 _ _ hl4
        refine ⟨l, us, _, rfl, rfl, hl5, ?_, ?_⟩
        · refine small_line ?_
          have e1 := hu.length
          rw [List.length_map, List.length_take] at e1
          have e2 := Mi.orders_len f.kind
          omega
        · have tk5 : Tk Hc (upd H5 l (.lst (us ++ [.ref tp]))) := (s4.trans m5).tk.trans (tk_lst hl5)
          refine ⟨some (.ref ao), some (.ref r), x4, rfl, ((sm.trans s4).trans m5).mut nl, ?_, ordl_upd hl5 ((s4.trans m5).ordl hou), us ++ [.ref tp], upd_same, ?_⟩
          · rw [upd_ne npl]
            exact m5 _ _ hp4
          · rw [take_snoc hoi, List.map_append]
            refine Paired.snoc (tk5.tps hu) ⟨tp, rfl, ?_⟩
            rw [upd_ne (ne_of t5 hl5 fun z => nomatch z), t5]
            rfl
    · rintro σ Hc ⟨x2, x3, x4, rfl, sm, hpo, hou, us, hl, hu⟩
      have e : uo.length = (Mi.ordersOf f.kind).length := hou.length
      rw [e, List.take_length] at hu
      exact ⟨_, rfl, q Hc l us sm nl hl hu⟩
end
end G
set_option Elab.async false
set_option maxRecDepth 100000
set_option maxHeartbeats 4000000
namespace G
open PySem PySem.Spec PyProof.Rows L2
open Kh375 (Fact Rule)
theorem cutF (f : Fact) : cutV (fV f) (some 1) none = f.points.map vN := cut1 _ _
theorem cutF_not (f : Fact) : ¬ (HT.sIx (fV f).length 0 (some 1) = 0 ∧ HT.sIx (fV f).length (fV f).length none = (fV f).length) := cut1_not _ _
theorem at_O {r : Mi.Row} {j : Nat} (h : j < r.length) : atI (r.map vO) (j : Int) = some (vO (r.getD j none)) := by
  refine atI_nat ?_
  rw [List.getElem?_map, List.getElem?_eq_getElem h]
  simp [List.getD_eq_getElem?_getD, h]
theorem scal_O (o : Option Nat) (n : Int) : scal (vO o) (.int n) = true := by cases o <;> rfl
theorem vO_open {o : Option Nat} : decide (vO o = V.int (-1)) = true ↔ o = none := by
  rw [decide_eq_true_eq]
  cases o with
  | none => exact ⟨fun _ => rfl, fun _ => rfl⟩
  | some n =>
    refine ⟨fun h => ?_, fun h => nomatch h⟩
    have := V.int.inj h
    omega
theorem ix_in {n j : Nat} (h : j < n) : ixN n (j : Int) = some j := by
  unfold ixN
  rw [if_pos (by omega), if_pos (by omega)]
  simp
section
variable {P : Program} {w : World} {K : PySem.W.Frag} {mg : Str → Option Value} {base : Heap} {A : Ad}
/-! line_of: slots 0 fact -/
abbrev s_line_of : Stmt := topS 17
abbrev N_line_of : List Str := ["fact"]
theorem sc_line_of : FnScope N_line_of ["fact"] (defScope s_line_of) := C8.fnScope_by (by decide +kernel)
def sp_line_of : Sp := fun vs H Q _ => ∃ (v : V) (f : Fact), vs = [v] ∧ Tp H v f ∧ Mi.NF f ∧ ∀ H' p, L2.Same H H' → H p = none → H' p = some (.lst ((Kh375.lineValues f).map vN)) → Q (.ref p) H'
theorem c_line_of (T : Txt K mg A) : C8.Cal P w K mg base 1 "line_of" sp_line_of [] := by
  obtain ⟨f, fd, F, b⟩ := T.d_line_of.ex
  refine C8.cal0 F b .nil sc_line_of ?_ ?_
  · rintro vs H Q E ⟨v, f, rfl, _⟩
    rfl
  · rintro cdv _ outer s H vs Q E hr ⟨_, f, rfl, ⟨af, rfl, hf⟩, nf, q⟩
    refine ⟨_, (pss_one (ps_ret (pe_ifExp (pt_cmpR op_eq (pe_callB call_len_seq rfl T.n_len PySem.boot_len (pa_cons (pv 0) pa_nil)) pe_int (nomark _)) (pe_callTy call_list_of rfl T.n_list (by decide +kernel) (pa_cons (pv 0) pa_nil)) (pe_op op_cat (pe_callTy call_list_of rfl T.n_list (by decide +kernel) (pa_cons (pv 0) pa_nil)) (pe_lst (pa_cons pe_int pa_nil)))))), ?_⟩
    have hl : f.points.length = 3 ∨ f.points.length = 4 := by
      rcases nf.cases with ⟨_, _, _, rfl | rfl, _⟩ | ⟨_, _, _, _, rfl, _⟩ | ⟨_, _, _, rfl, _⟩ | ⟨_, _, _, _, rfl | rfl | rfl, _⟩ <;> first | exact .inl rfl | exact .inr rfl
    have e : (fV f).length = f.points.length + 1 := by unfold fV; rw [List.length_map, List.length_cons]
    refine ⟨_, rfl, af, _, rfl, .inr (SqT.of hf), rfl, _, rfl, ite2 (fun h => ?_) fun h => ?_⟩
    · have h4 : f.points.length = 4 := by
        have := V.int.inj (of_decide_eq_true h)
        omega
      refine ⟨_, rfl, af, _, rfl, .inr (SqT.of hf), fun l nl => q _ l (L2.Same.new nl) nl ?_⟩
      rw [upd_same]
      unfold Kh375.lineValues fV
      rw [h4]
      simp
    · have h3 : f.points.length = 3 := by
        rcases hl with h3 | h4
        · exact h3
        · exact absurd (decide_eq_true (by rw [e, h4]; rfl)) h
      refine ⟨_, rfl, af, _, rfl, .inr (SqT.of hf), fun l nl => ?_⟩
      (generalize hgen : upd _ _ _ = H1; have m1 := grow_same hgen nl; have t1 := grow_at hgen; clear hgen)
      refine ⟨(by show 1 ≤ sizeLine; decide), fun l2 nl2 => ?_⟩
      (generalize hgen : upd _ _ _ = H2; have m2 := grow_same hgen nl2; have t2 := grow_at hgen; clear hgen)
      refine ⟨l, l2, _, _, rfl, rfl, m2 _ _ t1, t2, ?_, fun p np => q _ p ((m1.trans m2).trans (L2.Same.new np)) ((m1.trans m2).free np) ?_⟩
      · refine small_lineE ?_
        rw [e, h3]
        decide
      · rw [upd_same]
        unfold Kh375.lineValues fV
        rw [h3]
        simp
/-! filled: slots 0 pattern, 1 values, 2 row, 3 variable -/
abbrev s_filled : Stmt := topS 32
abbrev N_filled : List Str := ["pattern", "values", "row", "variable"]
theorem sc_filled : FnScope N_filled ["pattern", "values"] (defScope s_filled) := C8.fnScope_by (by decide +kernel)
def sp_filled (K : PySem.W.Frag) : Sp := fun vs H Q _ => ∃ (v : V) (a : Addr) (pat : Fact) (r : Mi.Row), vs = [v, .ref a] ∧ Pt K H v pat ∧ LO H a r ∧ pat.points.length ≤ 4 ∧ (∀ i ∈ pat.points, ∃ n, r[i]? = some (some n)) ∧
  ∀ H' p, L2.Same H H' → H p = none → H' p = some (.tup (fV (Mi.fill pat r))) → Q (.ref p) H'
theorem c_filled (T : Txt K mg A) : C8.Cal P w K mg base 1 "filled" (sp_filled K) [] := by
  obtain ⟨f, fd, F, b⟩ := T.d_filled.ex
  refine C8.cal0 F b .nil sc_filled ?_ ?_
  · rintro vs H Q E ⟨v, a, pat, r, rfl, _⟩
    rfl
  · rintro cdv _ outer s H vs Q E hr ⟨_, a, pat, r, rfl, ⟨ap, rfl, hp⟩, hr0, h4, hall, q⟩
    refine ⟨_, (pss_cons (ps_set (i := 2) sc_filled.nd rfl (Or.inl rfl) (pe_lst (pa_cons (pe_ix ix_tup (pv 0) pe_int (fun _ _ => rfl)) pa_nil)))
        (pss_cons (ps_for PassesOwn.never rfl (pi_tup (pe_slice sl_tup (pv 0) (po_some pe_int) po_none)) (pg_name (i := 3) sc_filled.nd rfl (Or.inl rfl))
        (pss_one (ps_expr (pe_bm PySem.F.plainAttrs_list PySem.F.slot_list_append PySem.F.type_list_append mt_append (pv 2) (pa_cons (pe_ix ix_list (pv 1) (pv 3) (fun _ _ => rfl)) pa_nil)))))
        (pss_one (ps_ret (pe_callTy call_tuple_of rfl T.n_tuple (by decide +kernel) (pa_cons (pv 2) pa_nil)))))), ?_⟩
    refine ⟨_, rfl, ap, _, _, _, rfl, rfl, hp, fV_at0 pat, (by show 1 ≤ sizeLine; decide), fun l nl => ?_⟩
    (generalize hgen : upd _ _ _ = H1; have m1 := grow_same hgen nl; have t1 := grow_at hgen; clear hgen)
    refine ⟨_, rfl, _, rfl, ap, _, rfl, m1.sqt hp, cutF_not pat, fun c nc => ?_⟩
    rw [cutF]
    (generalize hgen : upd _ _ _ = H2; have m2 := grow_same hgen nc; have t2 := grow_at hgen; clear hgen)
    refine ⟨c, rfl, ⟨_, SqT.of t2⟩, for_tup (K := K) (a := c) (xs := pat.points.map vN) (fun i σ Hc => ∃ x3, σ = [some (.ref ap), some (.ref a), some (.ref l), x3] ∧ L2.Same H Hc ∧ SqT K Hc c (pat.points.map vN) ∧ Hc l = some (.lst ((pat.kind :: (pat.points.take i).map fun j => (r.getD j none).getD 0).map vN)))
      ⟨none, rfl, m1.trans m2, SqT.of t2, m2 _ _ t1⟩ (fun i σ Hc _ ⟨_, _, _, z, _⟩ => z) ?_ ?_⟩
    · rintro i y σ Hc hy ⟨x3, rfl, sm, hc, hl⟩
      obtain ⟨j, hj, rfl⟩ := map_get hy
      obtain ⟨n, hn⟩ := hall j (List.mem_of_getElem? hj)
      have jl : j < r.length := (List.getElem?_eq_some_iff.mp hn).1
      have eg : r.getD j none = some n := by rw [List.getD_eq_getElem?_getD, hn]; rfl
      refine ⟨_, rfl, .inl ⟨rfl, _, SqL.of hl⟩, _, rfl, _, rfl, a, _, _, _, rfl, rfl, SqL.of (sm _ _ hr0), at_O jl, l, _, _, rfl, rfl, hl, ?_, ?_⟩
      · refine small_line ?_
        rw [List.length_map, List.length_cons, List.length_map, List.length_take]
        omega
      · refine ⟨_, rfl, sm.mut nl, sqt_upd hl hc, ?_⟩
        rw [upd_same, take_snoc hj, eg]
        simp [vO, hn]
    · rintro σ Hc ⟨x3, rfl, sm, hc, hl⟩
      rw [List.length_map, List.take_length] at hl
      refine ⟨_, rfl, l, _, rfl, .inl ⟨SqL.of hl, fun p np => q _ p (sm.trans (L2.Same.new np)) (sm.free np) ?_⟩⟩
      rw [upd_same]
      rfl
/-! matched: slots 0 pattern, 1 reading, 2 values, 3 found, 4 variable, 5 point -/
abbrev s_matched : Stmt := topS 33
abbrev N_matched : List Str := ["pattern", "reading", "values", "found", "variable", "point"]
theorem sc_matched : FnScope N_matched ["pattern", "reading", "values"] (defScope s_matched) := C8.fnScope_by (by decide +kernel)
def sp_matched (K : PySem.W.Frag) : Sp := fun vs H Q _ => ∃ (v u : V) (a : Addr) (pat rd : Fact) (r : Mi.Row), vs = [v, u, .ref a] ∧ Pt K H v pat ∧ Tp H u rd ∧ LO H a r ∧ r.length ≤ 6 ∧ pat.points.length = rd.points.length ∧ (∀ i ∈ pat.points, i < r.length) ∧
  ∀ H', L2.Same H H' → (Mi.matchP pat rd r = none → Q .non H') ∧ (∀ p r', H p = none → H' p = some (.lst (r'.map vO)) → Mi.matchP pat rd r = some r' → Q (.ref p) H')
theorem c_matched (T : Txt K mg A) : C8.Cal P w K mg base 1 "matched" (sp_matched K) [] := by
  obtain ⟨f, fd, F, b⟩ := T.d_matched.ex
  refine C8.cal0 F b .nil sc_matched ?_ ?_
  · rintro vs H Q E ⟨v, u, a, pat, rd, r, rfl, _⟩
    rfl
  · rintro cdv _ outer s H vs Q E hr ⟨_, _, a, pat, rd, r, rfl, ⟨ap, rfl, hp⟩, ⟨ar, rfl, hrd⟩, hr0, h6, hlen, hall, q⟩
    refine ⟨_, (pss_cons (ps_set (i := 3) sc_matched.nd rfl (Or.inl rfl) (pe_callTy call_list_of rfl T.n_list (by decide +kernel) (pa_cons (pv 2) pa_nil)))
        (pss_cons (ps_for PassesOwn.never rfl (RZ.pi_zipA rfl T.n_zip (pa_cons (pe_slice sl_tup (pv 0) (po_some pe_int) po_none) (pa_cons (pe_slice sl_tup (pv 1) (po_some pe_int) po_none) pa_nil))) (pg_tup rfl (pgs_cons (pg_name (i := 4) sc_matched.nd rfl (Or.inl rfl)) (pgs_cons (pg_name (i := 5) sc_matched.nd rfl (Or.inl rfl)) pgs_nil)))
        (pss_one (ps_if (pt_cmpR op_eq (pe_ix ix_list (pv 3) (pv 4) (fun _ _ => rfl)) (pe_un un_neg pe_int) (nomark _)) (pss_one (ps_asg (pv 5) (pg_sub (pv 3) (pv 4) set_list))) (pss_one (ps_if (pt_cmpR op_ne (pe_ix ix_list (pv 3) (pv 4) (fun _ _ => rfl)) (pv 5) (nomark _)) (pss_one (ps_ret pe_non)) pss_nil)))))
        (pss_one (ps_ret (pv 3))))), ?_⟩
    refine ⟨_, rfl, a, _, rfl, .inl (SqL.of hr0), fun l nl => ?_⟩
    (generalize hgen : upd _ _ _ = H1; have m1 := grow_same hgen nl; have t1 := grow_at hgen; clear hgen)
    refine ⟨_, rfl, _, rfl, ap, _, rfl, m1.sqt hp, cutF_not pat, fun c1 nc1 => ?_⟩
    rw [cutF]
    (generalize hgen : upd _ _ _ = H2; have m2 := grow_same hgen nc1; have t2 := grow_at hgen; clear hgen)
    refine ⟨_, rfl, _, rfl, ar, _, rfl, SqT.of (m2 _ _ (m1 _ _ hrd)), cutF_not rd, fun c2 nc2 => ?_⟩
    rw [cutF]
    (generalize hgen : upd _ _ _ = H3; have m3 := grow_same hgen nc2; have t3 := grow_at hgen; clear hgen)
    refine ⟨c1, c2, pat.points.map vN, rd.points.map vN, rfl, .inr ⟨SqT.of (m3 _ _ t2), SqT.of t3, RZ.for_zipT (K := K) (a := c1) (b := c2) (xs := pat.points.map vN) (ys := rd.points.map vN) (by rw [List.length_map, List.length_map]; exact hlen)
      (fun i σ Hc => ∃ x4 x5 r', σ = [some (.ref ap), some (.ref ar), some (.ref a), some (.ref l), x4, x5] ∧ L2.Same H Hc ∧ SqT K Hc c1 (pat.points.map vN) ∧ SqT K Hc c2 (rd.points.map vN) ∧ Hc l = some (.lst (r'.map vO)) ∧ r'.length = r.length ∧
        Mi.matchP pat rd r = Mi.matchGo ((pat.points.zip rd.points).drop i) r')
      ⟨none, none, r, rfl, (m1.trans m2).trans m3, SqT.of (m3 _ _ t2), SqT.of t3, m3 _ _ (m2 _ _ t1), rfl, rfl⟩ (fun i σ Hc ⟨_, _, _, _, _, z1, z2, _⟩ => ⟨z1, z2⟩) ?_ ?_⟩⟩
    · rintro i x y Tq σ Hc hx hy ⟨x4, x5, r', rfl, sm, s1, s2, hl, hln, hm⟩ nT
      obtain ⟨j, hj, rfl⟩ := map_get hx
      obtain ⟨pp, hpp, rfl⟩ := map_get hy
      refine ⟨Tq, _, rfl, SqT.of upd_same, rfl, _, _, rfl, _, _, rfl, rfl, ?_⟩
      (generalize hgen : upd _ _ _ = H4; have m4 := grow_same hgen nT; have t4 := grow_at hgen; clear hgen)
      have jl : j < r'.length := by rw [hln]; exact hall j (List.mem_of_getElem? hj)
      have hl4 := m4 _ _ hl
      have ez : (pat.points.zip rd.points).drop i = (j, pp) :: (pat.points.zip rd.points).drop (i + 1) := by
        have e1 : (pat.points.zip rd.points)[i]? = some (j, pp) := by
          rw [List.getElem?_zip_eq_some]
          exact ⟨hj, hpp⟩
        obtain ⟨hi, e2⟩ := List.getElem?_eq_some_iff.mp e1
        rw [List.drop_eq_getElem_cons hi, e2]
      rw [ez] at hm
      refine ⟨_, rfl, _, rfl, l, _, _, _, rfl, rfl, SqL.of hl4, at_O jl, _, rfl, scal_O _ _, _, rfl, ite2 (fun h => ?_) fun h => ?_⟩
      · have eo := vO_open.mp h
        refine ⟨_, rfl, _, rfl, _, rfl, l, _, _, j, rfl, rfl, hl4, by rw [List.length_map]; exact ix_in jl, ?_⟩
        refine ⟨_, _, r'.set j (some pp), rfl, (sm.trans m4).mut nl, sqt_upd hl4 (m4.sqt s1), sqt_upd hl4 (m4.sqt s2), ?_, by rw [List.length_set]; exact hln, ?_⟩
        · rw [upd_same, List.map_set]
          rfl
        · rw [hm, Mi.matchGo_none eo]
      · have eo : ∃ k, r'.getD j none = some k := by
          cases e : r'.getD j none with
          | none => exact absurd (vO_open.mpr e) h
          | some k => exact ⟨k, rfl⟩
        obtain ⟨k, ek⟩ := eo
        refine ⟨_, rfl, _, rfl, l, _, _, _, rfl, rfl, SqL.of hl4, at_O jl, _, rfl, scal_O _ _, _, rfl, ite2 (fun h2 => ?_) fun h2 => ?_⟩
        · have n : k ≠ pp := by
            rintro rfl
            rw [ek] at h2
            simp [vO] at h2
          exact (q _ (sm.trans m4)).1 (by rw [hm, Mi.matchGo_other ek n])
        · have e : k = pp := by
            rw [ek] at h2
            simp [vO] at h2
            omega
          subst e
          exact ⟨_, _, r', rfl, sm.trans m4, m4.sqt s1, m4.sqt s2, hl4, hln, by rw [hm, Mi.matchGo_same ek]⟩
    · rintro σ Hc ⟨x4, x5, r', rfl, sm, s1, s2, hl, hln, hm⟩
      refine ⟨_, rfl, (q _ sm).2 l r' nl hl ?_⟩
      rw [hm, List.drop_eq_nil_of_le (by rw [List.length_zip, List.length_map]; omega)]
      rfl
/-! first_open: slots 0 pattern, 1 values, 2 variable -/
abbrev s_first_open : Stmt := topS 34
abbrev N_first_open : List Str := ["pattern", "values", "variable"]
theorem sc_first_open : FnScope N_first_open ["pattern", "values"] (defScope s_first_open) := C8.fnScope_by (by decide +kernel)
def sp_first_open (K : PySem.W.Frag) : Sp := fun vs H Q _ => ∃ (v : V) (a : Addr) (pat : Fact) (r : Mi.Row), vs = [v, .ref a] ∧ Pt K H v pat ∧ LO H a r ∧ (∀ i ∈ pat.points, i < r.length) ∧
  ∀ H', L2.Same H H' → Q (vO (Mi.firstOpen pat r)) H'
theorem c_first_open (T : Txt K mg A) : C8.Cal P w K mg base 1 "first_open" (sp_first_open K) [] := by
  obtain ⟨f, fd, F, b⟩ := T.d_first_open.ex
  refine C8.cal0 F b .nil sc_first_open ?_ ?_
  · rintro vs H Q E ⟨v, a, pat, r, rfl, _⟩
    rfl
  · rintro cdv _ outer s H vs Q E hr ⟨_, a, pat, r, rfl, ⟨ap, rfl, hp⟩, hr0, hall, q⟩
    refine ⟨_, (pss_cons (ps_for PassesOwn.never rfl (pi_tup (pe_slice sl_tup (pv 0) (po_some pe_int) po_none)) (pg_name (i := 2) sc_first_open.nd rfl (Or.inl rfl))
        (pss_one (ps_if (pt_cmpR op_eq (pe_ix ix_list (pv 1) (pv 2) (fun _ _ => rfl)) (pe_un un_neg pe_int) (nomark _)) (pss_one (ps_ret (pv 2))) pss_nil)))
        (pss_one (ps_ret (pe_un un_neg pe_int)))), ?_⟩
    refine ⟨_, rfl, _, rfl, ap, _, rfl, hp, cutF_not pat, fun c nc => ?_⟩
    rw [cutF]
    (generalize hgen : upd _ _ _ = H1; have m1 := grow_same hgen nc; have t1 := grow_at hgen; clear hgen)
    refine ⟨c, rfl, ⟨_, SqT.of t1⟩, for_tup (K := K) (a := c) (xs := pat.points.map vN) (fun i σ Hc => ∃ x2, σ = [some (.ref ap), some (.ref a), x2] ∧ Hc = H1 ∧ ∀ j ∈ pat.points.take i, (r.getD j none).isNone = false)
      ⟨none, rfl, rfl, by simp⟩ (fun i σ Hc _ ⟨_, _, z, _⟩ => by rw [z]; exact SqT.of t1) ?_ ?_⟩
    · rintro i y σ _ hy ⟨x2, rfl, rfl, hn⟩
      obtain ⟨j, hj, rfl⟩ := map_get hy
      have jl := hall j (List.mem_of_getElem? hj)
      refine ⟨_, rfl, _, rfl, a, _, _, _, rfl, rfl, SqL.of (m1 _ _ hr0), at_O jl, _, rfl, scal_O _ _, _, rfl, ite2 (fun h => ?_) fun h => ?_⟩
      · have eo := vO_open.mp h
        refine ⟨_, rfl, ?_⟩
        have e : Mi.firstOpen pat r = some j := by
          unfold Mi.firstOpen
          obtain ⟨hi, e2⟩ := List.getElem?_eq_some_iff.mp hj
          have e3 : pat.points = pat.points.take i ++ j :: pat.points.drop (i + 1) := by
            rw [← e2, ← List.drop_eq_getElem_cons hi, List.take_append_drop]
          rw [e3, List.find?_append, List.find?_eq_none.mpr (fun x hx => by rw [hn x hx]; exact Bool.false_ne_true), Option.none_or, List.find?_cons_of_pos (by rw [eo]; rfl)]
        have z := q _ m1
        rw [e] at z
        exact z
      · refine ⟨_, rfl, rfl, fun x hx => ?_⟩
        rw [take_snoc hj, List.mem_append, List.mem_singleton] at hx
        rcases hx with hx | rfl
        · exact hn x hx
        · cases e : r.getD x none with
          | none => exact absurd (vO_open.mpr e) h
          | some k => rfl
    · rintro σ _ ⟨x2, rfl, rfl, hn⟩
      refine ⟨_, rfl, ?_⟩
      have e : Mi.firstOpen pat r = none := by
        unfold Mi.firstOpen
        rw [List.find?_eq_none]
        intro x hx
        rw [List.length_map, List.take_length] at hn
        rw [hn x hx]
        exact Bool.false_ne_true
      have z := q _ m1
      rw [e] at z
      exact z
end
end G
set_option Elab.async false
set_option maxRecDepth 100000
set_option maxHeartbeats 4000000
namespace G
open PySem PySem.Spec PyProof.Rows L2
open Kh375 (Fact Rule)
/-- a list of ints at an address, which is none of some -/
def RowNe (bad : List Addr) (H : Hp) (v : V) (r : List Nat) : Prop := ∃ a, v = .ref a ∧ a ∉ bad ∧ LN H a r
theorem rowNe_same {bad : List Addr} {H H' : Hp} {vs : List V} {rs : List (List Nat)} (e : L2.Same H H') (h : Paired (RowNe bad H) vs rs) : Paired (RowNe bad H') vs rs :=
  L2.Paired.mapP h fun _ _ ⟨a, e1, e2, e3⟩ => ⟨a, e1, e2, e _ _ e3⟩
theorem rowNe_upd {bad : List Addr} {H : Hp} {l : Addr} {o : HO} {vs : List V} {rs : List (List Nat)} (hb : l ∈ bad) (h : Paired (RowNe bad H) vs rs) : Paired (RowNe bad (upd H l o)) vs rs :=
  L2.Paired.mapP h fun _ _ ⟨a, e1, e2, e3⟩ => ⟨a, e1, e2, by
    show upd H l o a = _
    rw [upd_ne (fun z => e2 (by rw [z]; exact hb))]
    exact e3⟩
theorem rowNe_less {bad bad' : List Addr} {H : Hp} {vs : List V} {rs : List (List Nat)} (hb : ∀ x ∈ bad', x ∈ bad) (h : Paired (RowNe bad H) vs rs) : Paired (RowNe bad' H) vs rs :=
  L2.Paired.mapP h fun _ _ ⟨a, e1, e2, e3⟩ => ⟨a, e1, fun z => e2 (hb a z), e3⟩
theorem paired_app {α β : Type} {F : α → β → Prop} : ∀ {l1 l1' : List α} {l2 l2' : List β}, Paired F l1 l2 → Paired F l1' l2' → Paired F (l1 ++ l1') (l2 ++ l2')
  | _, _, _, _, .nil, h => h
  | _, _, _, _, .cons a t, h => .cons a (paired_app t h)
section
variable {P : Program} {w : World} {K : PySem.W.Frag} {mg : Str → Option Value} {base : Heap} {A : Ad}
/-! assignments: slots 0 many, 1 values, 2 rows, 3 value, 4 longer, 5 row, 6 point -/
abbrev s_assignments : Stmt := topS 44
abbrev N_assignments : List Str := ["many", "values", "rows", "value", "longer", "row", "point"]
theorem sc_assignments : FnScope N_assignments ["many", "values"] (defScope s_assignments) := C8.fnScope_by (by decide +kernel)
def sp_assignments : Sp := fun vs H Q _ => ∃ (n : Nat) (a : Addr) (r : Mi.Row), vs = [vN n, .ref a] ∧ LO H a r ∧ n ≤ 7 ∧ r.length ≤ 6 ∧
  ∀ H' p us, L2.Same H H' → H p = none → H' p = some (.lst us) → Paired (RowNe [] H') us (Mi.asg n r) → Q (.ref p) H'
theorem c_assignments (T : Txt K mg A) : C8.Cal P w K mg base 1 "assignments" sp_assignments [] := by
  obtain ⟨f, fd, F, b⟩ := T.d_assignments.ex
  refine C8.cal0 F b .nil sc_assignments ?_ ?_
  · rintro vs H Q E ⟨n, a, r, rfl, _⟩
    rfl
  · rintro cdv _ outer s H vs Q E hr ⟨n, a, r, rfl, ha, hn, h6, q⟩
    refine ⟨_, (pss_cons (ps_set (i := 2) sc_assignments.nd rfl (Or.inl rfl) (pe_lst (pa_cons (pe_lst pa_nil) pa_nil)))
        (pss_cons (ps_for PassesOwn.never rfl (pi_list (pv 1)) (pg_name (i := 3) sc_assignments.nd rfl (Or.inl rfl))
        (pss_cons (ps_set (i := 4) sc_assignments.nd rfl (Or.inl rfl) (pe_lst pa_nil))
        (pss_cons (ps_for PassesOwn.never rfl (pi_list (pv 2)) (pg_name (i := 5) sc_assignments.nd rfl (Or.inr rfl))
        (pss_one (ps_if (pt_cmpR op_eq (pv 3) (pe_un un_neg pe_int) (nomark _)) (pss_one (ps_expr (pe_bm PySem.F.plainAttrs_list PySem.F.slot_list_extend PySem.F.type_list_extend mt_extend (pv 4) (pa_cons (pe_lc (own := [("point", 6)]) (g := gName 6) (by rfl) sc_assignments.nd (pi_range1 rfl T.n_range (pa_cons (pv 0) pa_nil)) (blkOk_by (own := [("point", 6)]) (N := N_assignments) (sc := defScope s_assignments) (by decide +kernel)) (fun _ _ _ _ _ => pg_name (i := 6) sc_assignments.nd rfl (Or.inl rfl)) (fun _ _ _ _ _ => pts_nil) (fun _ _ _ _ _ => (pe_op op_cat (pv 5) (pe_lst (pa_cons (pv 6) pa_nil))))) pa_nil)))) (pss_one (ps_expr (pe_bm PySem.F.plainAttrs_list PySem.F.slot_list_append PySem.F.type_list_append mt_append (pv 4) (pa_cons (pe_op op_cat (pv 5) (pe_lst (pa_cons (pv 3) pa_nil))) pa_nil)))))))
        (pss_one (ps_set (i := 2) sc_assignments.nd rfl (Or.inl rfl) (pv 4))))))
        (pss_one (ps_ret (pv 2))))), ?_⟩
    refine ⟨Nat.zero_le _, fun e ne => ?_⟩
    (generalize hgen : upd _ _ _ = H0; have m0 := grow_same hgen ne; have t0 := grow_at hgen; clear hgen)
    refine ⟨(by show 1 ≤ sizeLine; decide), fun l nl => ?_⟩
    (generalize hgen : upd _ _ _ = H1; have m1 := grow_same hgen nl; have t1 := grow_at hgen; clear hgen)
    refine ⟨_, rfl, a, rfl, ⟨_, SqL.of ((m0.trans m1) _ _ ha)⟩, for_list (K := K) (a := a) (xs := r.map vO) (fun i σ Hc => ∃ x3 x4 x5 lr us, σ = [some (vN n), some (.ref a), some (.ref lr), x3, x4, x5, none] ∧ L2.Same H Hc ∧ H lr = none ∧ Hc lr = some (.lst us) ∧ Paired (RowNe [] Hc) us (Mi.asg n (r.take i)))
      ⟨none, none, none, l, [.ref e], rfl, m0.trans m1, m0.free nl, t1, .cons ⟨e, rfl, by simp, m1 _ _ t0⟩ .nil⟩ (fun i σ Hc _ ⟨_, _, _, _, _, _, sm, _⟩ => SqL.of (sm _ _ ha)) ?_ ?_⟩
    · rintro i y σ Hc hy ⟨x3, x4, x5, lr, us, rfl, sm, nlr, hlr, hus⟩
      obtain ⟨v, hv, rfl⟩ := map_get hy
      have il : i < 6 := Nat.lt_of_lt_of_le (List.getElem?_eq_some_iff.mp hv).1 h6
      have rowsLe : (Mi.asg n (r.take i)).length ≤ 7 ^ 5 := Mi.asg_le hn (by rw [List.length_take]; omega)
      have ul := hus.length
      -- longer = []
      refine ⟨Nat.zero_le _, fun L nL => ?_⟩
      (generalize hgen : upd _ _ _ = H2; have m2 := grow_same hgen nL; have t2 := grow_at hgen; clear hgen)
      refine ⟨_, rfl, lr, rfl, ⟨us, SqL.of (m2 _ _ hlr)⟩, for_list (K := K) (a := lr) (xs := us) (fun j σ H3 => ∃ x5, σ = [some (vN n), some (.ref a), some (.ref lr), some (vO v), some (.ref L), x5, none] ∧ L2.Same Hc H3 ∧ ∃ ws, H3 L = some (.lst ws) ∧ Paired (RowNe [L] H3) ws (Mi.asgStep n ((Mi.asg n (r.take i)).take j) v))
        ⟨x5, rfl, m2, [], t2, by cases v <;> exact .nil⟩ (fun j σ H3 _ ⟨_, _, s3, _⟩ => SqL.of (s3 _ _ hlr)) ?_ ?_⟩
      · rintro j y σ H3 hy2 ⟨x5, rfl, s3, ws, hL, hws⟩
        obtain ⟨row, hrow, arow, rfl, _, hr1⟩ := paired_at hus hy2
        have hr3 := s3 _ _ hr1
        have rlen : row.length ≤ 6 := by
          rw [Mi.asg_row_len (List.mem_of_getElem? hrow), List.length_take]
          omega
        have jl : j < (Mi.asg n (r.take i)).length := (List.getElem?_eq_some_iff.mp hrow).1
        have wl := hws.length
        have wl2 := Mi.asgStep_len hn ((Mi.asg n (r.take i)).take j) v
        rw [List.length_take] at wl2
        refine ⟨_, rfl, _, rfl, scal_O _ _, _, rfl, ite2 (fun h => ?_) fun h => ?_⟩
        · have eo := vO_open.mp h
          subst eo
          refine ⟨_, rfl, .inl ⟨rfl, _, SqL.of hL⟩, _, rfl, (n : Int), rfl, by omega, by omega, fun D nD => ?_⟩
          refine lc_range (lo := 0) (n := n) (fun t Hx => L2.Same H3 Hx ∧ ∃ ds, Hx D = some (.lst ds) ∧ Paired (RowNe [L, D] Hx) ds ((List.range t).map fun p => row ++ [p])) ⟨L2.Same.new nD, [], upd_same, .nil⟩ ?_ ?_
          · rintro t Hx ht ⟨s4, ds, hD, hds⟩
            refine ⟨rfl, ?_⟩
            refine ⟨_, rfl, _, rfl, (by show 1 ≤ sizeLine; decide), fun p1 np1 => ?_⟩
            (generalize hgen : upd _ _ _ = Hy; have m5 := grow_same hgen np1; have t5 := grow_at hgen; clear hgen)
            refine ⟨arow, p1, _, _, rfl, rfl, m5 _ _ (s4 _ _ hr3), t5, ?_, fun p2 np2 => ?_⟩
            · refine small_lineE ?_
              rw [List.length_map]
              show row.length + 1 ≤ _
              omega
            (generalize hgen : upd _ _ _ = Hz; have m6 := grow_same hgen np2; have t6 := grow_at hgen; clear hgen)
            have hD2 := m6 _ _ (m5 _ _ hD)
            refine ⟨ds, hD2, ?_, ((s4.trans m5).trans m6).mut nD, ds ++ [.ref p2], upd_same, ?_⟩
            · refine small_line ?_
              rw [hds.length, List.length_map, List.length_range]
              omega
            · rw [List.range_succ, List.map_append]
              refine rowNe_upd (by simp) (Paired.snoc (rowNe_same (m5.trans m6) hds) ⟨p2, rfl, ?_, ?_⟩)
              · have h1 : L ≠ p2 := ne_of_none (m5 _ _ (s4 _ _ hL)) np2
                have h2 : D ≠ p2 := ne_of_none (m5 _ _ hD) np2
                simp [Ne.symm h1, Ne.symm h2]
              · show Hz p2 = _
                rw [t6, List.map_append]
                have : (V.int (0 + (t : Int))) = vN t := by rw [Int.zero_add]
                rw [this]
                rfl
          · rintro Hx ⟨s4, ds, hD, hds⟩
            have hL4 := s4 _ _ hL
            refine ⟨L, D, ws, ds, rfl, rfl, hL4, hD, ?_, ?_⟩
            · refine small_lineE ?_
              rw [wl, hds.length, List.length_map, List.length_range]
              omega
            · refine ⟨_, rfl, (s3.trans s4).mut nL, ws ++ ds, upd_same, ?_⟩
              rw [take_snoc hrow, Mi.asgStep_snoc]
              refine rowNe_upd (by simp) (paired_app (rowNe_same s4 hws) ?_)
              have e : Mi.asgStep n [row] none = (List.range n).map fun p => row ++ [p] := by simp [Mi.asgStep]
              rw [e]
              exact rowNe_less (by simp) hds
        · obtain ⟨k, rfl⟩ : ∃ k, v = some k := by
            cases v with
            | none => exact absurd (vO_open.mpr rfl) h
            | some k => exact ⟨k, rfl⟩
          refine ⟨_, rfl, .inl ⟨rfl, _, SqL.of hL⟩, _, rfl, _, rfl, (by show 1 ≤ sizeLine; decide), fun p1 np1 => ?_⟩
          (generalize hgen : upd _ _ _ = Hy; have m5 := grow_same hgen np1; have t5 := grow_at hgen; clear hgen)
          refine ⟨arow, p1, _, _, rfl, rfl, m5 _ _ hr3, t5, ?_, fun p2 np2 => ?_⟩
          · refine small_lineE ?_
            rw [List.length_map]
            show row.length + 1 ≤ _
            omega
          (generalize hgen : upd _ _ _ = Hz; have m6 := grow_same hgen np2; have t6 := grow_at hgen; clear hgen)
          have hL2 := m6 _ _ (m5 _ _ hL)
          refine ⟨L, ws, _, rfl, rfl, hL2, ?_, ?_⟩
          · refine small_line ?_
            rw [wl]
            omega
          · refine ⟨_, rfl, ((s3.trans m5).trans m6).mut nL, ws ++ [.ref p2], upd_same, ?_⟩
            rw [take_snoc hrow, Mi.asgStep_snoc]
            refine rowNe_upd (by simp) (Paired.snoc (rowNe_same (m5.trans m6) hws) ⟨p2, rfl, ?_, ?_⟩)
            · have h1 : L ≠ p2 := ne_of_none (m5 _ _ hL) np2
              simp [Ne.symm h1]
            · show Hz p2 = _
              rw [t6, List.map_append]
              rfl
      · rintro σ H3 ⟨x5, rfl, s3, ws, hL, hws⟩
        refine ⟨_, rfl, ?_⟩
        rw [ul, List.take_length] at hws
        refine ⟨_, _, _, L, ws, rfl, sm.trans s3, sm.free nL, hL, ?_⟩
        rw [Mi.asg_take hv]
        exact rowNe_less (by simp) hws
    · rintro σ Hc ⟨x3, x4, x5, lr, us, rfl, sm, nlr, hlr, hus⟩
      rw [List.length_map, List.take_length] at hus
      exact ⟨_, rfl, q Hc lr us sm nlr hlr hus⟩
/-! premises_of: slots 0 rule, 1 values, 2 pattern -/
abbrev s_premises_of : Stmt := topS 45
abbrev N_premises_of : List Str := ["rule", "values", "pattern"]
theorem sc_premises_of : FnScope N_premises_of ["rule", "values"] (defScope s_premises_of) := C8.fnScope_by (by decide +kernel)
def sp_premises_of (K : PySem.W.Frag) : Sp := fun vs H Q _ => ∃ (v : V) (a : Addr) (rl : Rule) (row : List Nat), vs = [v, .ref a] ∧ RuleAt K H v rl ∧ Mi.RuleOk rl ∧ LN H a row ∧ row.length = rl.variableCount ∧
  ∀ H' p, L2.Same H H' → H p = none → Ls H' p (rl.premises.map (Kh375.substitute row)) → Q (.ref p) H'
theorem c_premises_of (T : Txt K mg A) : C8.Cal P w K mg base 2 "premises_of" (sp_premises_of K) [] := by
  obtain ⟨f, fd, F, b⟩ := T.d_premises_of.ex
  refine C8.cal0 F b .nil sc_premises_of ?_ ?_
  · rintro vs H Q E ⟨v, a, rl, row, rfl, _⟩
    rfl
  · rintro cdv _ outer s H vs Q E hr ⟨_, a, rl, row, rfl, ⟨ar, vp, vc, rfl, sr, hp, hc⟩, ok, ha, hl, q⟩
    obtain ⟨ap, us, rfl, sp, hus⟩ := hp
    have ha' : LO H a (row.map some) := by
      show H a = _
      rw [ha, List.map_map]
      rfl
    refine ⟨_, (pss_one (ps_ret (pe_lc (own := [("pattern", 2)]) (g := gName 2) (by rfl) sc_premises_of.nd (pi_tup (pe_ix ix_tup (pv 0) pe_int (fun _ _ => rfl))) (blkOk_by (own := [("pattern", 2)]) (N := N_premises_of) (sc := defScope s_premises_of) (by decide +kernel)) (fun _ _ _ _ _ => pg_name (i := 2) sc_premises_of.nd rfl (Or.inl rfl)) (fun _ _ _ _ _ => pts_nil) (fun _ _ _ _ _ => (C8.pe_c (c_filled T) hr (by decide) rfl (pa_cons (pv 2) (pa_cons (pv 1) pa_nil))))))), ?_⟩
    refine ⟨_, rfl, ar, _, _, _, rfl, rfl, sr, rfl, ap, rfl, ⟨us, sp⟩, fun D nD => ?_⟩
    refine lc_tup (K := K) (a := ap) (xs := us) (fun i Hx => L2.Same H Hx ∧ Ls Hx D ((rl.premises.take i).map (Kh375.substitute row))) ⟨L2.Same.new nD, [], upd_same, .nil⟩ (fun i Hx _ ⟨z, _⟩ => z.sqt sp) ?_ ?_
    · rintro i x Hx hx ⟨sm, ds, hD, hds⟩
      obtain ⟨pat, hpat, hx2⟩ := paired_at hus hx
      have po := ok.prem pat (List.mem_of_getElem? hpat)
      refine ⟨rfl, ?_⟩
      refine ⟨_, rfl, _, rfl, x, a, pat, row.map some, rfl, sm.pt hx2, sm _ _ ha', po.most, fun i hi => ?_, fun H' p s2 np hp => ?_⟩
      · have : i < row.length := by rw [hl]; exact po.vars i hi
        exact ⟨row[i], by rw [List.getElem?_map, List.getElem?_eq_getElem this]; rfl⟩
      · have hD2 := s2 _ _ hD
        refine ⟨ds, hD2, ?_, (sm.trans s2).mut nD, ds ++ [.ref p], upd_same, ?_⟩
        · refine small_line ?_
          have e := hds.length
          rw [List.length_map, List.length_take] at e
          have := ok.nprem
          omega
        · rw [take_snoc hpat, List.map_append]
          have tk := s2.tk.trans (tk_lst (o := .lst (ds ++ [.ref p])) hD2)
          refine Paired.snoc (tk.tps hds) ⟨p, rfl, ?_⟩
          rw [upd_ne (ne_of hp hD2 fun z => nomatch z), hp, Mi.fill_some pat row (fun i hi => by rw [hl]; exact po.vars i hi)]
    · rintro Hx ⟨sm, hD⟩
      have e : us.length = rl.premises.length := hus.length
      rw [e, List.take_length] at hD
      exact q Hx D sm nD hD
/-- None, or a list of ints -/
def OpRow (H : Hp) (v : V) (o : Option (List Nat)) : Prop := match o with
  | none => v = .non
  | some r => ∃ a, v = .ref a ∧ LN H a r
theorem opRow_same {H H' : Hp} {v : V} {o : Option (List Nat)} (e : L2.Same H H') (h : OpRow H v o) : OpRow H' v o := by
  cases o with
  | none => exact h
  | some r =>
    obtain ⟨a, e1, e2⟩ := h
    exact ⟨a, e1, e _ _ e2⟩
/-! lesser: slots 0 one, 1 other -/
abbrev s_lesser : Stmt := topS 47
abbrev N_lesser : List Str := ["one", "other"]
theorem sc_lesser : FnScope N_lesser ["one", "other"] (defScope s_lesser) := C8.fnScope_by (by decide +kernel)
def sp_lesser : Sp := fun vs H Q _ => ∃ (v u : V) (o1 o2 : Option (List Nat)), vs = [v, u] ∧ OpRow H v o1 ∧ OpRow H u o2 ∧ (∀ a b, o1 = some a → o2 = some b → b.length = a.length) ∧ ∀ x, OpRow H x (Mi.lesser o1 o2) → Q x H
theorem c_lesser (T : Txt K mg A) : C8.Cal P w K mg base 1 "lesser" sp_lesser [] := by
  obtain ⟨f, fd, F, b⟩ := T.d_lesser.ex
  refine C8.cal0 F b .nil sc_lesser ?_ ?_
  · rintro vs H Q E ⟨v, u, o1, o2, rfl, _⟩
    rfl
  · rintro cdv _ outer s H vs Q E hr ⟨v, u, o1, o2, rfl, h1, h2, hl, q⟩
    refine ⟨_, (pss_cons (ps_if (PW.pt (pw_or (pt_cmpR op_isN (pv 0) pe_non (nomark _)) (pw_or1 (pt_cmpR op_isN (pv 1) pe_non (nomark _))))) (pss_one (ps_ret (pe_ifExp (pt_cmpR op_isN (pv 0) pe_non (nomark _)) (pv 1) (pv 0)))) pss_nil)
        (pss_one (ps_ret (pe_callB (call_minL rfl (hu3 hr)) rfl T.n_min (by decide +kernel) (pa_cons (pv 0) (pa_cons (pv 1) pa_nil)))))), ?_⟩
    cases o1 with
    | none =>
      cases h1
      exact ⟨_, rfl, rfl, _, rfl, iteT (iteT ⟨_, rfl, rfl, _, rfl, iteT ⟨_, rfl, q u h2⟩⟩)⟩
    | some a =>
      obtain ⟨pa, rfl, ha⟩ := h1
      cases o2 with
      | none =>
        cases h2
        exact ⟨_, rfl, rfl, _, rfl, iteF ⟨_, rfl, rfl, _, rfl, iteT ⟨_, rfl, rfl, _, rfl, iteF ⟨_, rfl, q _ ⟨pa, rfl, ha⟩⟩⟩⟩⟩
      | some bb =>
        obtain ⟨pb, rfl, hb⟩ := h2
        refine ⟨_, rfl, rfl, _, rfl, iteF ⟨_, rfl, rfl, _, rfl, iteF ?_⟩⟩
        refine ⟨_, rfl, _, rfl, pa, pb, _, _, rfl, ha.sq, hb.sq, ?_⟩
        rw [Mi.lexInt (hl a bb rfl rfl) HT.lexLt rfl HT.lexLt_cons]
        refine q _ ?_
        show OpRow H _ (some (if Kh375.isLexLess bb a = true then bb else a))
        by_cases c : Kh375.isLexLess bb a = true
        · rw [if_pos c, if_pos c]
          exact ⟨pb, rfl, hb⟩
        · rw [if_neg c, if_neg c]
          exact ⟨pa, rfl, ha⟩
end
end G
set_option Elab.async false
set_option maxRecDepth 100000
set_option maxHeartbeats 4000000
namespace G
open PySem PySem.Spec PyProof.Rows L2
open Kh375 (Fact Rule)
/-- a dict that is used as a set of facts -/
def DSet (H : Hp) (a : Addr) (ks : List Fact) : Prop := ∃ kvs, H a = some (.dT kvs) ∧ kvs.length ≤ ks.length ∧ ∀ f : Fact, (valV kvs (keyF f)).isSome = decide (f ∈ ks)
theorem _root_.L2.Same.dset {H H' : Hp} {a : Addr} {ks : List Fact} (e : L2.Same H H') (h : DSet H a ks) : DSet H' a ks := by
  obtain ⟨kvs, h1, h2⟩ := h
  exact ⟨kvs, e _ _ h1, h2⟩
theorem dset_nil {H : Hp} {a : Addr} (h : H a = some (.dT [])) : DSet H a [] := ⟨[], h, Nat.le_refl _, fun f => by simp [valV]⟩
theorem dset_put {kvs : List (List L2.Key × V)} {ks : List Fact} (h : kvs.length ≤ ks.length) (hv : ∀ f : Fact, (valV kvs (keyF f)).isSome = decide (f ∈ ks)) (f : Fact) (v : V) :
    (putK kvs (keyF f) v).length ≤ (ks ++ [f]).length ∧ ∀ g : Fact, (valV (putK kvs (keyF f) v) (keyF g)).isSome = decide (g ∈ ks ++ [f]) := by
  refine ⟨?_, fun g => ?_⟩
  · unfold putK
    split
    · rw [List.length_map, List.length_append]
      omega
    · rw [List.length_append, List.length_append]
      simp only [List.length_singleton]
      omega
  · rw [valV_put]
    by_cases c : g = f
    · subst c
      simp
    · rw [if_neg fun z => c (keyF_inj z), hv]
      simp [c]
/-- what `f in d` asks -/
theorem dset_get {H : Hp} {a b : Addr} {ks : List Fact} {f : Fact} (h : DSet H a ks) (hb : H b = some (.tup (fV f))) : ∃ o, DGet H a (.ref b) o ∧ o.isSome = decide (f ∈ ks) := by
  obtain ⟨kvs, h1, _, h2⟩ := h
  exact ⟨_, DGet.t h1 (by rw [keyF_kV]; exact hb), h2 f⟩
section
variable {P : Program} {w : World} {K : PySem.W.Frag} {mg : Str → Option Value} {base : Heap} {A : Ad}
/-! first_given: slots 0 many, 1 rule, 2 values, 3 given, 4 row, 5 premise -/
abbrev s_first_given : Stmt := topS 48
abbrev N_first_given : List Str := ["many", "rule", "values", "given", "row", "premise"]
theorem sc_first_given : FnScope N_first_given ["many", "rule", "values", "given"] (defScope s_first_given) := C8.fnScope_by (by decide +kernel)
def sp_first_given (K : PySem.W.Frag) : Sp := fun vs H Q _ => ∃ (n : Nat) (v : V) (a g : Addr) (rl : Rule) (vals : Mi.Row) (given : List Fact), vs = [vN n, v, .ref a, .ref g] ∧ RuleAt K H v rl ∧ Mi.RuleOk rl ∧ LO H a vals ∧ vals.length = rl.variableCount ∧ n ≤ 7 ∧ DSet H g given ∧
  ∀ H' x, L2.Same H H' → OpRow H' x (Mi.firstGiven n rl vals given) → Q x H'
theorem c_first_given (T : Txt K mg A) : C8.Cal P w K mg base 3 "first_given" (sp_first_given K) [] := by
  obtain ⟨f, fd, F, b⟩ := T.d_first_given.ex
  refine C8.cal0 F b .nil sc_first_given ?_ ?_
  · rintro vs H Q E ⟨n, v, a, g, rl, vals, given, rfl, _⟩
    rfl
  · rintro cdv _ outer s H vs Q E hr ⟨n, v, a, g, rl, vals, given, rfl, hrl, ok, ha, hl, hn, hg, q⟩
    refine ⟨_, (pss_cons (ps_for PassesOwn.never rfl (pi_list (C8.pe_c (c_assignments T) hr (by decide) rfl (pa_cons (pv 0) (pa_cons (pv 2) pa_nil)))) (pg_name (i := 4) sc_first_given.nd rfl (Or.inl rfl))
        (pss_one (ps_if (pt_val (pe_callB (cr_all rfl) rfl T.n_all (by decide +kernel) (pa_cons (pe_lc (own := [("premise", 5)]) (g := gName 5) (by rfl) sc_first_given.nd (pi_list (C8.pe_c (c_premises_of T) hr (by decide) rfl (pa_cons (pv 1) (pa_cons (pv 4) pa_nil)))) (blkOk_by (own := [("premise", 5)]) (N := N_first_given) (sc := defScope s_first_given) (by decide +kernel)) (fun _ _ _ _ _ => pg_name (i := 5) sc_first_given.nd rfl (Or.inl rfl)) (fun _ _ _ _ _ => pts_nil) (fun _ _ _ _ _ => (pe_cmp (pc_din (hu_of hr) (pv 5) (pv 3)) rfl))) pa_nil))) (pss_one (ps_ret (pv 4))) pss_nil)))
        (pss_one (ps_ret pe_non))), ?_⟩
    refine ⟨_, rfl, _, rfl, n, a, vals, rfl, ha, hn, by rw [hl]; exact ok.few, fun H1 p us m1 np hp hus => ?_⟩
    refine ⟨p, rfl, ⟨us, SqL.of hp⟩, for_list (K := K) (a := p) (xs := us) (fun i σ Hc => ∃ x4, σ = [some (vN n), some v, some (.ref a), some (.ref g), x4, none] ∧ L2.Same H1 Hc ∧ ∀ r ∈ (Mi.asg n vals).take i, Mi.allIn rl given r = false)
      ⟨none, rfl, fun _ _ z => z, by simp⟩ (fun i σ Hc _ ⟨_, _, z, _⟩ => SqL.of (z _ _ hp)) ?_ ?_⟩
    · rintro i y σ Hc hy ⟨x4, rfl, sm, hno⟩
      obtain ⟨row, hrow, ar, rfl, _, hr1⟩ := paired_at hus hy
      have hr3 := sm _ _ hr1
      have rlen : row.length = rl.variableCount := by rw [Mi.asg_row_len (List.mem_of_getElem? hrow), hl]
      refine ⟨_, rfl, _, rfl, v, ar, rl, row, rfl, (m1.trans sm).rule hrl, ok, hr3, rlen, fun H2 p2 m2 np2 hp2 => ?_⟩
      obtain ⟨ws, hw, hws⟩ := hp2
      refine ⟨p2, rfl, ⟨ws, SqL.of hw⟩, fun D nD => ?_⟩
      refine lc_list (K := K) (a := p2) (xs := ws) (fun j Hx => L2.Same H2 Hx ∧ Hx D = some (.lst (((rl.premises.take j).map fun pr => decide (Kh375.substitute row pr ∈ given)).map V.bl))) ⟨L2.Same.new nD, upd_same⟩ (fun j Hx _ ⟨z, _⟩ => SqL.of (z _ _ hw)) ?_ ?_
      · rintro j z Hx hz ⟨s3, hD⟩
        obtain ⟨fc, hfc, af, rfl, hf⟩ := paired_at hws hz
        rw [List.getElem?_map] at hfc
        obtain ⟨pr, hpr, rfl⟩ : ∃ pr, rl.premises[j]? = some pr ∧ fc = Kh375.substitute row pr := by
          cases e : rl.premises[j]? with
          | none => rw [e] at hfc; cases hfc
          | some pr => rw [e] at hfc; exact ⟨pr, rfl, (Option.some.inj hfc).symm⟩
        obtain ⟨o, ho, hos⟩ := dset_get ((((m1.trans sm).trans m2).trans s3).dset hg) (s3 _ _ hf)
        refine ⟨rfl, _, rfl, _, rfl, g, o, rfl, ho, _, hD, ?_, s3.mut nD, ?_⟩
        · refine small_line ?_
          rw [List.length_map, List.length_map, List.length_take]
          have := ok.nprem
          omega
        · rw [upd_same, take_snoc hpr, hos]
          simp
      · rintro Hx ⟨s3, hD⟩
        have e : ws.length = rl.premises.length := by rw [hws.length, List.length_map]
        rw [e, List.take_length] at hD
        refine ⟨D, _, rfl, SqL.of hD, _, rfl, ?_⟩
        have eall : ((rl.premises.map fun pr => decide (Kh375.substitute row pr ∈ given)).all id) = Mi.allIn rl given row := by
          rw [List.all_map]
          rfl
        rw [eall]
        refine ite2 (fun h => ?_) fun h => ?_
        · refine ⟨_, rfl, q _ _ (((m1.trans sm).trans m2).trans s3) ?_⟩
          have e : Mi.firstGiven n rl vals given = some row := by
            unfold Mi.firstGiven
            obtain ⟨hi, e2⟩ := List.getElem?_eq_some_iff.mp hrow
            have e3 : Mi.asg n vals = (Mi.asg n vals).take i ++ row :: (Mi.asg n vals).drop (i + 1) := by
              rw [← e2, ← List.drop_eq_getElem_cons hi, List.take_append_drop]
            rw [e3, List.find?_append, List.find?_eq_none.mpr (fun x hx => by rw [hno x hx]; exact Bool.false_ne_true), Option.none_or, List.find?_cons_of_pos h]
          rw [e]
          exact ⟨ar, rfl, s3 _ _ (m2 _ _ hr3)⟩
        · refine ⟨_, rfl, (sm.trans m2).trans s3, fun r hr => ?_⟩
          rw [take_snoc hrow, List.mem_append, List.mem_singleton] at hr
          rcases hr with hr | rfl
          · exact hno r hr
          · exact Bool.eq_false_iff.mpr h
    · rintro σ Hc ⟨x4, rfl, sm, hno⟩
      refine q _ _ (m1.trans sm) ?_
      have e : Mi.firstGiven n rl vals given = none := by
        unfold Mi.firstGiven
        rw [List.find?_eq_none]
        intro x hx
        rw [hus.length, List.take_length] at hno
        rw [hno x hx]
        exact Bool.false_ne_true
      rw [e]
      rfl
/-! first_assignment: slots 0 many, 1 rule, 2 fact, 3 given, 4 best, 5 pattern, 6 reading, 7 values -/
abbrev s_first_assignment : Stmt := topS 46
abbrev N_first_assignment : List Str := ["many", "rule", "fact", "given", "best", "pattern", "reading", "values"]
theorem sc_first_assignment : FnScope N_first_assignment ["many", "rule", "fact", "given"] (defScope s_first_assignment) := C8.fnScope_by (by decide +kernel)
def sp_first_assignment (K : PySem.W.Frag) : Sp := fun vs H Q _ => ∃ (n : Nat) (v vf : V) (g : Addr) (rl : Rule) (f : Fact) (given : List Fact), vs = [vN n, v, vf, .ref g] ∧ RuleAt K H v rl ∧ Mi.RuleOk rl ∧ Tp H vf f ∧ Mi.NF f ∧ n ≤ 7 ∧ DSet H g given ∧
  ∀ H' x, L2.Same H H' → OpRow H' x (Mi.firstAsg n rl f given) → Q x H'
theorem c_first_assignment (T : Txt K mg A) : C8.Cal P w K mg base 4 "first_assignment" (sp_first_assignment K) [] := by
  obtain ⟨f, fd, F, b⟩ := T.d_first_assignment.ex
  refine C8.cal0 F b .nil sc_first_assignment ?_ ?_
  · rintro vs H Q E ⟨n, v, vf, g, rl, f, given, rfl, _⟩
    rfl
  · rintro cdv _ outer s H vs Q E hr ⟨n, _, _, g, rl, f, given, rfl, ⟨ar, vp, vc, rfl, sr, hp, hc⟩, ok, ⟨af, rfl, hf⟩, nf, hn, hg, q⟩
    obtain ⟨ac, us, rfl, sc, hus⟩ := hc
    refine ⟨_, (pss_cons (ps_set (i := 4) sc_first_assignment.nd rfl (Or.inl rfl) pe_non)
        (pss_cons (ps_for PassesOwn.never rfl (pi_tup (pe_ix ix_tup (pv 1) pe_int (fun _ _ => rfl))) (pg_name (i := 5) sc_first_assignment.nd rfl (Or.inl rfl))
        (pss_one (ps_for PassesOwn.never rfl (pi_list (C8.pe_c (c_readings T) hr (by decide) rfl (pa_cons (pv 2) pa_nil))) (pg_name (i := 6) sc_first_assignment.nd rfl (Or.inl rfl))
        (pss_cons (ps_set (i := 7) sc_first_assignment.nd rfl (Or.inl rfl) (pe_op op_rep (pe_lst (pa_cons (pe_un un_neg pe_int) pa_nil)) (pe_ix ix_tup (pv 1) pe_int (fun _ _ => rfl))))
        (pss_one (ps_if (pt_cmpR op_eq (pe_ix ix_tup (pv 5) pe_int (fun _ _ => rfl)) (pe_ix ix_tup (pv 2) pe_int (fun _ _ => rfl)) (nomark _)) (pss_cons (ps_set (i := 7) sc_first_assignment.nd rfl (Or.inl rfl) (C8.pe_c (c_matched T) hr (by decide) rfl (pa_cons (pv 5) (pa_cons (pv 6) (pa_cons (pv 7) pa_nil)))))
        (pss_one (ps_if (pt_cmpR op_notN (pv 7) pe_non (nomark _)) (pss_one (ps_set (i := 4) sc_first_assignment.nd rfl (Or.inl rfl) (C8.pe_c (c_lesser T) hr (by decide) rfl (pa_cons (pv 4) (pa_cons (C8.pe_c (c_first_given T) hr (by decide) rfl (pa_cons (pv 0) (pa_cons (pv 1) (pa_cons (pv 7) (pa_cons (pv 3) pa_nil))))) pa_nil))))) pss_nil))) pss_nil))))))
        (pss_one (ps_ret (pv 4))))), ?_⟩
    refine ⟨_, rfl, ar, _, _, _, rfl, rfl, sr, rfl, ac, rfl, ⟨us, sc⟩, for_tup (K := K) (a := ac) (xs := us) (fun i σ Hc => ∃ x4 x5 x6 x7, σ = [some (vN n), some (.ref ar), some (.ref af), some (.ref g), some x4, x5, x6, x7] ∧ L2.Same H Hc ∧
        OpRow Hc x4 ((rl.conclusions.take i).foldl (Mi.tryPat n rl f given) none) ∧ ∀ r, (rl.conclusions.take i).foldl (Mi.tryPat n rl f given) none = some r → r.length = rl.variableCount)
      ⟨_, none, none, none, rfl, fun _ _ z => z, rfl, by simp⟩ (fun i σ Hc _ ⟨_, _, _, _, _, z, _⟩ => z.sqt sc) ?_ ?_⟩
    · rintro i y σ Hc hy ⟨x4, x5, x6, x7, rfl, sm, hb, hbl⟩
      obtain ⟨pat, hpat, ap, rfl, hpt⟩ := paired_at hus hy
      have po := ok.conc pat (List.mem_of_getElem? hpat)
      refine ⟨_, rfl, _, f, rfl, ⟨af, rfl, sm _ _ hf⟩, nf, fun H1 p rs m1 np hp1 hrs => ?_⟩
      refine ⟨p, rfl, ⟨rs, SqL.of hp1⟩, for_list (K := K) (a := p) (xs := rs) (fun j σ H2 => ∃ x4 x6 x7, σ = [some (vN n), some (.ref ar), some (.ref af), some (.ref g), some x4, some (.ref ap), x6, x7] ∧ L2.Same H1 H2 ∧
        OpRow H2 x4 (((Mi.readings f).take j).foldl (fun b rd => Mi.tryOne n rl f given b pat rd) ((rl.conclusions.take i).foldl (Mi.tryPat n rl f given) none)) ∧
        ∀ r, ((Mi.readings f).take j).foldl (fun b rd => Mi.tryOne n rl f given b pat rd) ((rl.conclusions.take i).foldl (Mi.tryPat n rl f given) none) = some r → r.length = rl.variableCount)
        ⟨x4, x6, x7, rfl, fun _ _ z => z, opRow_same m1 hb, hbl⟩ (fun j σ H2 _ ⟨_, _, _, _, z, _⟩ => SqL.of (z _ _ hp1)) ?_ ?_⟩
      · rintro j z σ H2 hz ⟨x4, x6, x7, rfl, s2, hb2, hbl2⟩
        generalize eb : ((Mi.readings f).take j).foldl (fun b rd => Mi.tryOne n rl f given b pat rd) ((rl.conclusions.take i).foldl (Mi.tryPat n rl f given) none) = best at hb2 hbl2
        obtain ⟨rd, hrd, ad, rfl, hd⟩ := paired_at hrs hz
        have rk := Mi.reading_same nf (List.mem_of_getElem? hrd)
        have S2 := (sm.trans m1).trans s2
        -- values = [-1] * rule[0]
        refine ⟨_, rfl, (by show 1 ≤ sizeLine; decide), fun l1 n1 => ?_⟩
        (generalize hgen : upd _ _ _ = H3; have m3 := grow_same hgen n1; have t3 := grow_at hgen; clear hgen)
        refine ⟨_, rfl, ar, _, _, _, rfl, rfl, (S2.trans m3).sqt sr, rfl, l1, _, _, rfl, rfl, t3, by omega, ?_, ?_, fun l2 n2 => ?_⟩
        · have := ok.few
          omega
        · refine small_lineE ?_
          have := ok.few
          simp only [List.length_singleton, Int.toNat_natCast]
          omega
        (generalize hgen : upd _ _ _ = H4; have m4 := grow_same hgen n2; have t4 := grow_at hgen; clear hgen)
        have S4 := (S2.trans m3).trans m4
        have hv : LO H4 l2 (List.replicate rl.variableCount none) := by
          show H4 l2 = _
          rw [t4, Int.toNat_natCast, List.map_replicate]
          congr 2
          generalize rl.variableCount = m
          induction m with
          | zero => rfl
          | succ m ih => rw [List.replicate_succ, List.flatten_cons, ih]; rfl
        have Sm : L2.Same Hc H4 := ((m1.trans s2).trans m3).trans m4
        refine ⟨_, rfl, ap, _, _, _, rfl, rfl, S4.sqt hpt, fV_at0 pat, _, rfl, af, _, _, _, rfl, rfl, SqT.of (S4 _ _ hf), fV_at0 f, rfl, _, rfl, ite2 (fun h => ?_) fun h => ?_⟩
        · have ek : pat.kind = f.kind := dec_vN.mp h
          refine ⟨_, rfl, _, rfl, _, rfl, _, _, l2, pat, rd, _, rfl, ⟨ap, rfl, S4.sqt hpt⟩, ⟨ad, rfl, ((s2.trans m3).trans m4) _ _ hd⟩, hv, by rw [List.length_replicate]; exact ok.few, by rw [po.len, rk.2, nf.len, ek], fun i hi => by rw [List.length_replicate]; exact po.vars i hi, fun H5 m5 => ⟨fun em => ?_, fun l3 vals n3 t5 em => ?_⟩⟩
          · refine ⟨_, rfl, rfl, _, rfl, iteF ⟨x4, _, _, rfl, ((s2.trans m3).trans m4).trans m5, ?_⟩⟩
            rw [take_snoc hrd, List.foldl_append, eb]
            have e : Mi.tryOne n rl f given best pat rd = best := by
              unfold Mi.tryOne
              rw [if_pos ek, em]
            rw [List.foldl_cons, List.foldl_nil, e]
            exact ⟨opRow_same ((m3.trans m4).trans m5) hb2, hbl2⟩
          · have vl : vals.length = rl.variableCount := by
              rw [Mi.matchGo_len em, List.length_replicate]
            refine ⟨_, rfl, rfl, _, rfl, iteT ?_⟩
            refine ⟨_, rfl, _, rfl, _, rfl, _, rfl, _, rfl, n, _, l3, g, rl, vals, given, rfl, (S4.trans m5).rule ⟨ar, vp, _, rfl, sr, hp, ⟨ac, us, rfl, sc, hus⟩⟩, ok, t5, vl, hn, (S4.trans m5).dset hg, fun H6 x m6 hx => ?_⟩
            have hgl : ∀ r, Mi.firstGiven n rl vals given = some r → r.length = rl.variableCount := fun r hr => by
              rw [Mi.asg_row_len (List.mem_of_find?_eq_some hr), vl]
            refine ⟨x4, x, best, Mi.firstGiven n rl vals given, rfl, opRow_same (((m3.trans m4).trans m5).trans m6) hb2, hx, fun a b ea eb2 => by rw [hbl2 a ea, hgl b eb2], fun y hy => ?_⟩
            refine ⟨y, _, _, rfl, (((s2.trans m3).trans m4).trans m5).trans m6, ?_⟩
            rw [take_snoc hrd, List.foldl_append, eb]
            have e : Mi.tryOne n rl f given best pat rd = Mi.lesser best (Mi.firstGiven n rl vals given) := by
              unfold Mi.tryOne
              rw [if_pos ek, em]
            rw [List.foldl_cons, List.foldl_nil, e]
            exact ⟨hy, Mi.lesser_len hbl2 hgl⟩
        · have ek : ¬ pat.kind = f.kind := fun z => h (dec_vN.mpr z)
          refine ⟨x4, _, _, rfl, (s2.trans m3).trans m4, ?_⟩
          rw [take_snoc hrd, List.foldl_append, eb]
          have e : Mi.tryOne n rl f given best pat rd = best := by
            unfold Mi.tryOne
            rw [if_neg ek]
          rw [List.foldl_cons, List.foldl_nil, e]
          exact ⟨opRow_same (m3.trans m4) hb2, hbl2⟩
      · rintro σ H2 ⟨x4, x6, x7, rfl, s2, hb2, hbl2⟩
        refine ⟨x4, _, x6, x7, rfl, (sm.trans m1).trans s2, ?_⟩
        have e : rs.length = (Mi.readings f).length := hrs.length
        rw [e, List.take_length] at hb2 hbl2
        rw [take_snoc hpat, List.foldl_append]
        exact ⟨hb2, hbl2⟩
    · rintro σ Hc ⟨x4, x5, x6, x7, rfl, sm, hb, hbl⟩
      rw [hus.length, List.take_length] at hb
      exact ⟨_, rfl, q _ _ sm hb⟩
/-! is_derived: slots 0 many, 1 fact, 2 given, 3 rule -/
abbrev s_is_derived : Stmt := topS 52
abbrev N_is_derived : List Str := ["many", "fact", "given", "rule"]
theorem sc_is_derived : FnScope N_is_derived ["many", "fact", "given"] (defScope s_is_derived) := C8.fnScope_by (by decide +kernel)
def sp_is_derived : Sp := fun vs H Q _ => ∃ (n : Nat) (vf : V) (g : Addr) (f : Fact) (given : List Fact), vs = [vN n, vf, .ref g] ∧ Tp H vf f ∧ Mi.NF f ∧ n ≤ 7 ∧ DSet H g given ∧
  ∀ H', L2.Same H H' → Q (.bl (Kh375.rules.any fun rl => (Mi.firstAsg n rl f given).isSome)) H'
theorem c_is_derived (T : Txt K mg A) : C8.Cal P w K mg base 5 "is_derived" sp_is_derived [] := by
  obtain ⟨f, fd, F, b⟩ := T.d_is_derived.ex
  refine C8.cal0 F b .nil sc_is_derived ?_ ?_
  · rintro vs H Q E ⟨n, vf, g, f, given, rfl, _⟩
    rfl
  · rintro cdv _ outer s H vs Q E hr ⟨n, vf, g, f, given, rfl, hf, nf, hn, hg, q⟩
    obtain ⟨rs, hrs⟩ := T.rules
    refine ⟨_, (pss_one (ps_ret (pe_callB (cr_any rfl) rfl T.n_any (by decide +kernel) (pa_cons (pe_lc (own := [("rule", 3)]) (g := gName 3) (by rfl) sc_is_derived.nd (pi_tup (C8.pe_gc rfl T.g_RULES)) (blkOk_by (own := [("rule", 3)]) (N := N_is_derived) (sc := defScope s_is_derived) (by decide +kernel)) (fun _ _ _ _ _ => pg_name (i := 3) sc_is_derived.nd rfl (Or.inl rfl)) (fun _ _ _ _ _ => pts_nil) (fun _ _ _ _ _ => (pe_cmpR op_notN (C8.pe_c (c_first_assignment T) hr (by decide) rfl (pa_cons (pv 0) (pa_cons (pv 3) (pa_cons (pv 1) (pa_cons (pv 2) pa_nil))))) pe_non (nomark _)))) pa_nil)))), ?_⟩
    refine ⟨A.rules, rfl, ⟨rs, (hrs _).1⟩, fun D nD => ?_⟩
    refine lc_tup (K := K) (a := A.rules) (xs := rs) (fun i Hx => L2.Same H Hx ∧ Hx D = some (.lst (((Kh375.rules.take i).map fun rl => (Mi.firstAsg n rl f given).isSome).map V.bl))) ⟨L2.Same.new nD, upd_same⟩ (fun i Hx _ _ => (hrs Hx).1) ?_ ?_
    · rintro i x Hx hx ⟨sm, hD⟩
      obtain ⟨rl, hrl, hru⟩ := paired_at (hrs Hx).2 hx
      refine ⟨rfl, _, rfl, _, rfl, _, rfl, _, rfl, n, x, vf, g, rl, f, given, rfl, hru, Mi.rule_ok (List.mem_of_getElem? hrl), sm.tp hf, nf, hn, sm.dset hg, fun H' y s2 hy => ?_⟩
      have hD2 := s2 _ _ hD
      refine ⟨rfl, _, hD2, ?_, (sm.trans s2).mut nD, ?_⟩
      · refine small_line ?_
        rw [List.length_map, List.length_map, List.length_take]
        have : Kh375.rules.length = 28 := rfl
        omega
      · rw [upd_same, take_snoc hrl]
        cases e : Mi.firstAsg n rl f given with
        | none =>
          rw [e] at hy
          cases hy
          simp [e]
        | some r =>
          rw [e] at hy
          obtain ⟨a, rfl, _⟩ := hy
          simp [e]
    · rintro Hx ⟨sm, hD⟩
      have e : rs.length = Kh375.rules.length := (hrs Hx).2.length
      rw [e, List.take_length] at hD
      refine ⟨D, _, rfl, SqL.of hD, ?_⟩
      have z := q Hx sm
      rw [List.any_map]
      exact z
end
end G
set_option Elab.async false
set_option maxRecDepth 100000
set_option maxHeartbeats 4000000
namespace G
open PySem PySem.Spec PyProof.Rows L2
open Kh375 (Fact Rule)
def keyS (k a b : Nat) : List L2.Key := [Sum.inl (k : Int), Sum.inl (a : Int), Sum.inl (b : Int)]
theorem keyS_inj {k a b k' a' b' : Nat} (h : keyS k a b = keyS k' a' b') : k = k' ∧ a = a' ∧ b = b' := by
  unfold keyS at h
  simp only [List.cons.injEq, Sum.inl.injEq, and_true] at h
  omega
/-- a theory: its address, its own things, what stands in them; H0: a heap that knows none of them -/
structure ThIs (A : Ad) (H0 H : Hp) (t : Addr) (n : Nat) (os : List Fact) (rs : List (Fact × Nat)) (kn sr : List Fact) (dx lo dr dk ds : Addr) (L : Nat → Nat → Nat → Option Addr) : Prop where
  ins : H t = some (.ins A.ct dx [("many", vN n), ("order", .ref lo), ("rounds", .ref dr), ("known", .ref dk), ("starts", .ref ds)])
  order : Ls H lo os
  rounds : ∃ kvs, H dr = some (.dT kvs) ∧ kvs.length ≤ rs.length ∧ ∀ f : Fact, valV kvs (keyF f) = (Mi.roundIn rs f).map vN
  known : DSet H dk kn
  starts : ∃ kvs, H ds = some (.dT kvs) ∧ kvs.length ≤ sr.length ∧ ∀ k a b, valV kvs (keyS k a b) = (L k a b).map V.ref
  has : ∀ k a b l, L k a b = some l → Ls H l (sr.filter (Mi.startIs k a b))
  hasnt : ∀ k a b, L k a b = none → sr.filter (Mi.startIs k a b) = []
  inj : ∀ k a b k' a' b' l, L k a b = some l → L k' a' b' = some l → k = k' ∧ a = a' ∧ b = b'
  lo_ne : ∀ k a b, L k a b ≠ some lo
  d1 : dr ≠ dk
  d2 : dr ≠ ds
  d3 : dk ≠ ds
  ft : H0 t = none
  flo : H0 lo = none
  fdr : H0 dr = none
  fdk : H0 dk = none
  fds : H0 ds = none
  fL : ∀ k a b l, L k a b = some l → H0 l = none
def ThAt (A : Ad) (H0 H : Hp) (t : Addr) (n : Nat) (es : List (Fact × Nat)) : Prop := ∃ dx lo dr dk ds L, ThIs A H0 H t n (es.map (·.1)) es (Mi.readsOf es) (Mi.readsOf es) dx lo dr dk ds L
section
variable {A : Ad} {H0 H H' : Hp} {t : Addr} {n : Nat} {os : List Fact} {rs : List (Fact × Nat)} {kn sr : List Fact} {dx lo dr dk ds : Addr} {L : Nat → Nat → Nat → Option Addr}
theorem ThIs.same (h : ThIs A H0 H t n os rs kn sr dx lo dr dk ds L) (e : L2.Same H H') : ThIs A H0 H' t n os rs kn sr dx lo dr dk ds L := by
  obtain ⟨r1, r2, r3⟩ := h.rounds
  obtain ⟨s1, s2, s3⟩ := h.starts
  exact { h with ins := e _ _ h.ins, order := e.ls h.order, rounds := ⟨r1, e _ _ r2, r3⟩, known := e.dset h.known, starts := ⟨s1, e _ _ s2, s3⟩, has := fun k a b l z => e.ls (h.has k a b l z) }
theorem ThIs.base {H1 : Hp} (h : ThIs A H0 H t n os rs kn sr dx lo dr dk ds L) (e : ∀ a, H a ≠ none → H0 a = none → H1 a = none) : ThIs A H1 H t n os rs kn sr dx lo dr dk ds L := by
  obtain ⟨r1, r2, r3⟩ := h.rounds
  obtain ⟨s1, s2, s3⟩ := h.starts
  obtain ⟨o1, o2, _⟩ := h.order
  obtain ⟨k1, k2, _⟩ := h.known
  refine { h with ft := e _ ?_ h.ft, flo := e _ ?_ h.flo, fdr := e _ ?_ h.fdr, fdk := e _ ?_ h.fdk, fds := e _ ?_ h.fds, fL := fun k a b l z => e _ ?_ (h.fL k a b l z) }
  · rw [h.ins]; exact fun z => nomatch z
  · rw [o2]; exact fun z => nomatch z
  · rw [r2]; exact fun z => nomatch z
  · rw [k2]; exact fun z => nomatch z
  · rw [s2]; exact fun z => nomatch z
  · obtain ⟨l1, l2, _⟩ := h.has k a b l z
    rw [l2]; exact fun z => nomatch z
theorem ls_upd {l x : Addr} {fs : List Fact} {o o' : HO} (h : Ls H l fs) (hx : H x = some o) (nt : ∀ xs, o ≠ .tup xs) (ne : l ≠ x) : Ls (upd H x o') l fs := by
  obtain ⟨vs, h1, h2⟩ := h
  exact ⟨vs, by rw [upd_ne ne]; exact h1, (Tk.mut (H := H) (fun _ _ e => e) hx nt).tps h2⟩
theorem dset_upd {l x : Addr} {fs : List Fact} {o' : HO} (h : DSet H l fs) (ne : l ≠ x) : DSet (upd H x o') l fs := by
  obtain ⟨vs, h1, h2⟩ := h
  exact ⟨vs, by rw [upd_ne ne]; exact h1, h2⟩
theorem ne_kind {a b : Addr} {o o' : HO} (h : H a = some o) (h' : H b = some o') (n : o ≠ o') : a ≠ b := fun z => by
  subst z
  rw [h] at h'
  exact n (Option.some.inj h')
theorem ThIs.putOrder {v : V} {f : Fact} {vs : List V} (h : ThIs A H0 H t n os rs kn sr dx lo dr dk ds L) (hv : Tp H v f) (hlo : H lo = some (.lst vs)) (hvs : Paired (Tp H) vs os) :
    ThIs A H0 (upd H lo (.lst (vs ++ [v]))) t n (os ++ [f]) rs kn sr dx lo dr dk ds L := by
  obtain ⟨r1, r2, r3⟩ := h.rounds
  obtain ⟨s1, s2, s3⟩ := h.starts
  obtain ⟨k1, k2, k3⟩ := h.known
  have tk := tk_lst (o := .lst (vs ++ [v])) hlo
  refine { h with ins := ?_, order := ⟨_, upd_same, Paired.snoc (tk.tps hvs) (tk.tp hv)⟩, rounds := ⟨r1, ?_, r3⟩, known := dset_upd ⟨k1, k2, k3⟩ (ne_kind k2 hlo fun z => nomatch z), starts := ⟨s1, ?_, s3⟩, has := fun k a b l z => ls_upd (h.has k a b l z) hlo (fun _ z => nomatch z) fun e => h.lo_ne k a b (by rw [z, e]) }
  · rw [upd_ne (ne_kind h.ins hlo fun z => nomatch z)]; exact h.ins
  · rw [upd_ne (ne_kind r2 hlo fun z => nomatch z)]; exact r2
  · rw [upd_ne (ne_kind s2 hlo fun z => nomatch z)]; exact s2
theorem ThIs.putRound {f : Fact} {r : Nat} {kvs : List (List L2.Key × V)} (h : ThIs A H0 H t n os rs kn sr dx lo dr dk ds L) (hdr : H dr = some (.dT kvs)) (hl : kvs.length ≤ rs.length) (hv : ∀ f : Fact, valV kvs (keyF f) = (Mi.roundIn rs f).map vN)
    (nf : f ∉ rs.map (·.1)) : ThIs A H0 (upd H dr (.dT (putK kvs (keyF f) (vN r)))) t n os (rs ++ [(f, r)]) kn sr dx lo dr dk ds L := by
  obtain ⟨s1, s2, s3⟩ := h.starts
  refine { h with ins := ?_, order := ?_, rounds := ⟨_, upd_same, ?_, fun g => ?_⟩, known := dset_upd h.known h.d1.symm, starts := ⟨s1, ?_, s3⟩, has := fun k a b l z => ?_ }
  · rw [upd_ne (ne_kind h.ins hdr fun z => nomatch z)]; exact h.ins
  · obtain ⟨o1, o2, _⟩ := h.order
    exact ls_upd h.order hdr (fun _ z => nomatch z) (ne_kind o2 hdr fun z => nomatch z)
  · unfold putK
    split
    · rw [List.length_map, List.length_append]; omega
    · rw [List.length_append, List.length_append]; simp only [List.length_singleton]; omega
  · rw [valV_put, Mi.roundIn_snoc _ _ _ _ nf]
    by_cases c : g = f
    · subst c; rw [if_pos rfl, if_pos rfl]; rfl
    · rw [if_neg fun z => c (keyF_inj z), if_neg c, hv]
  · rw [upd_ne h.d2.symm]; exact s2
  · obtain ⟨o1, o2, _⟩ := h.has k a b l z
    exact ls_upd (h.has k a b l z) hdr (fun _ z => nomatch z) (ne_kind o2 hdr fun z => nomatch z)
theorem ThIs.putKnown {f : Fact} {v : V} {kvs : List (List L2.Key × V)} (h : ThIs A H0 H t n os rs kn sr dx lo dr dk ds L) (hdk : H dk = some (.dT kvs)) (hl : kvs.length ≤ kn.length) (hv : ∀ f : Fact, (valV kvs (keyF f)).isSome = decide (f ∈ kn)) :
    ThIs A H0 (upd H dk (.dT (putK kvs (keyF f) v))) t n os rs (kn ++ [f]) sr dx lo dr dk ds L := by
  obtain ⟨r1, r2, r3⟩ := h.rounds
  obtain ⟨s1, s2, s3⟩ := h.starts
  refine { h with ins := ?_, order := ?_, rounds := ⟨r1, ?_, r3⟩, known := ⟨_, upd_same, dset_put hl hv f v⟩, starts := ⟨s1, ?_, s3⟩, has := fun k a b l z => ?_ }
  · rw [upd_ne (ne_kind h.ins hdk fun z => nomatch z)]; exact h.ins
  · obtain ⟨o1, o2, _⟩ := h.order
    exact ls_upd h.order hdk (fun _ z => nomatch z) (ne_kind o2 hdk fun z => nomatch z)
  · rw [upd_ne h.d1]; exact r2
  · rw [upd_ne h.d3.symm]; exact s2
  · obtain ⟨o1, o2, _⟩ := h.has k a b l z
    exact ls_upd (h.has k a b l z) hdk (fun _ z => nomatch z) (ne_kind o2 hdk fun z => nomatch z)
theorem startIs_self (f : Fact) : Mi.startIs f.kind (f.points.getD 0 0) (f.points.getD 1 0) f = true := by simp [Mi.startIs]
theorem startIs_other {f : Fact} {k a b : Nat} (h : ¬ (k = f.kind ∧ a = f.points.getD 0 0 ∧ b = f.points.getD 1 0)) : Mi.startIs k a b f = false := by
  unfold Mi.startIs
  rw [Bool.eq_false_iff]
  intro z
  simp only [Bool.and_eq_true, decide_eq_true_eq] at z
  exact h ⟨z.1.symm, z.2.1.symm, z.2.2.symm⟩
abbrev key3 (f : Fact) : List L2.Key := keyS f.kind (f.points.getD 0 0) (f.points.getD 1 0)
theorem ThIs.putOld {f : Fact} {v : V} {l : Addr} {vs : List V} (h : ThIs A H0 H t n os rs kn sr dx lo dr dk ds L) (hf : Tp H v f) (hL : L f.kind (f.points.getD 0 0) (f.points.getD 1 0) = some l) (hl : H l = some (.lst vs))
    (hvs : Paired (Tp H) vs (sr.filter (Mi.startIs f.kind (f.points.getD 0 0) (f.points.getD 1 0)))) : ThIs A H0 (upd H l (.lst (vs ++ [v]))) t n os rs kn (sr ++ [f]) dx lo dr dk ds L := by
  obtain ⟨r1, r2, r3⟩ := h.rounds
  obtain ⟨s1, s2, sl, s3⟩ := h.starts
  obtain ⟨k1, k2, k3⟩ := h.known
  have tk := tk_lst (o := .lst (vs ++ [v])) hl
  have nlo : lo ≠ l := fun e => h.lo_ne _ _ _ (by rw [hL, e])
  refine { h with ins := ?_, order := ls_upd h.order hl (fun _ z => nomatch z) nlo, rounds := ⟨r1, ?_, r3⟩, known := dset_upd ⟨k1, k2, k3⟩ (ne_kind k2 hl fun z => nomatch z), starts := ⟨s1, ?_, ?_, s3⟩, has := fun k a b l2 z => ?_, hasnt := fun k a b z => ?_ }
  · rw [upd_ne (ne_kind h.ins hl fun z => nomatch z)]; exact h.ins
  · rw [upd_ne (ne_kind r2 hl fun z => nomatch z)]; exact r2
  · rw [upd_ne (ne_kind s2 hl fun z => nomatch z)]; exact s2
  · rw [List.length_append]; omega
  · rw [List.filter_append]
    by_cases c : k = f.kind ∧ a = f.points.getD 0 0 ∧ b = f.points.getD 1 0
    · obtain ⟨rfl, rfl, rfl⟩ := c
      obtain rfl : l = l2 := Option.some.inj (hL.symm.trans z)
      rw [List.filter_cons_of_pos (startIs_self f), List.filter_nil]
      exact ⟨_, upd_same, Paired.snoc (tk.tps hvs) (tk.tp hf)⟩
    · rw [List.filter_cons_of_neg (by rw [startIs_other c]; exact Bool.false_ne_true), List.filter_nil, List.append_nil]
      refine ls_upd (h.has k a b l2 z) hl (fun _ z => nomatch z) fun e => c ?_
      subst e
      exact h.inj _ _ _ _ _ _ _ z hL
  · rw [List.filter_append, h.hasnt k a b z, List.nil_append]
    have c : ¬ (k = f.kind ∧ a = f.points.getD 0 0 ∧ b = f.points.getD 1 0) := by
      rintro ⟨rfl, rfl, rfl⟩
      rw [hL] at z
      cases z
    rw [List.filter_cons_of_neg (by rw [startIs_other c]; exact Bool.false_ne_true), List.filter_nil]
/-- a start of its own list, and its first reading -/
theorem ThIs.putNew {f : Fact} {v : V} {l : Addr} {kvs : List (List L2.Key × V)} (h : ThIs A H0 H t n os rs kn sr dx lo dr dk ds L) (hf : Tp H v f) (hL : L f.kind (f.points.getD 0 0) (f.points.getD 1 0) = none) (hds : H ds = some (.dT kvs)) (hkl : kvs.length ≤ sr.length)
    (hv : ∀ k a b, valV kvs (keyS k a b) = (L k a b).map V.ref) (fl : H l = none) (f0 : H0 l = none) :
    ∃ L', ThIs A H0 (upd (upd (upd H l (.lst [])) ds (.dT (putK kvs (key3 f) (.ref l)))) l (.lst [v])) t n os rs kn (sr ++ [f]) dx lo dr dk ds L' ∧ ∀ k a b l2, L' k a b = some l2 → l2 = l ∨ L k a b = some l2 := by
  have h1 := h.same (L2.Same.new (o := .lst []) fl)
  have hds1 : upd H l (.lst []) ds = some (.dT kvs) := L2.Same.new fl _ _ hds
  have hl1 : upd H l (.lst []) l = some (.lst []) := upd_same
  have nLl : ∀ k a b, L k a b ≠ some l := fun k a b z => by
    obtain ⟨o1, o2, _⟩ := h.has k a b l z
    rw [fl] at o2
    cases o2
  have nlo : lo ≠ l := fun e => by
    obtain ⟨o1, o2, _⟩ := h.order
    rw [e, fl] at o2
    cases o2
  have hf1 : Tp (upd H l (.lst [])) v f := (L2.Same.new fl).tp hf
  generalize eH : upd H l (.lst []) = H1 at *
  obtain ⟨r1, r2, r3⟩ := h1.rounds
  obtain ⟨k1, k2, k3⟩ := h1.known
  have ntd : ∀ xs, (HO.dT kvs) ≠ .tup xs := fun _ z => nomatch z
  have t1 : Tk H1 (upd H1 ds (.dT (putK kvs (key3 f) (.ref l)))) := Tk.mut (H := H1) (fun _ _ e => e) hds1 ntd
  have nld : l ≠ ds := ne_kind hl1 hds1 fun z => nomatch z
  generalize eH2 : upd H1 ds (.dT (putK kvs (key3 f) (.ref l))) = H2 at *
  have hl2 : H2 l = some (.lst []) := by rw [← eH2, upd_ne nld]; exact hl1
  have e2 : ∀ b, b ≠ ds → H2 b = H1 b := fun b hb => by rw [← eH2, upd_ne hb]
  have e3 : ∀ b, b ≠ ds → b ≠ l → upd H2 l (.lst [v]) b = H1 b := fun b hb hl => by rw [upd_ne hl, e2 b hb]
  have t2 : Tk H2 (upd H2 l (.lst [v])) := tk_lst hl2
  have lsx : ∀ {m : Addr} {fs : List Fact}, Ls H1 m fs → m ≠ l → Ls (upd H2 l (.lst [v])) m fs := fun {m fs} hm ne => by
    obtain ⟨o1, o2, o3⟩ := hm
    exact ⟨o1, by rw [e3 m (ne_kind o2 hds1 fun z => nomatch z) ne]; exact o2, t2.tps (t1.tps o3)⟩
  have hsplit : ∀ k a b, ¬ (k = f.kind ∧ a = f.points.getD 0 0 ∧ b = f.points.getD 1 0) → (sr ++ [f]).filter (Mi.startIs k a b) = sr.filter (Mi.startIs k a b) := fun k a b c => by
    rw [List.filter_append, List.filter_cons_of_neg (by rw [startIs_other c]; exact Bool.false_ne_true), List.filter_nil, List.append_nil]
  refine ⟨fun k a b => if k = f.kind ∧ a = f.points.getD 0 0 ∧ b = f.points.getD 1 0 then some l else L k a b,
    { h1 with ins := ?_, order := lsx h1.order nlo, rounds := ⟨r1, ?_, r3⟩, known := ⟨k1, ?_, k3⟩, starts := ⟨putK kvs (key3 f) (.ref l), ?_, ?_, fun k a b => ?_⟩, has := fun k a b l2 z => ?_, hasnt := fun k a b z => ?_, inj := fun k a b k' a' b' l2 z z' => ?_, lo_ne := fun k a b => ?_, fL := fun k a b l2 z => ?_ }, fun k a b l2 z => ?_⟩
  · rw [e3 t (ne_kind h1.ins hds1 fun z => nomatch z) (ne_kind h1.ins hl1 fun z => nomatch z)]; exact h1.ins
  · rw [e3 dr h1.d2 (ne_kind r2 hl1 fun z => nomatch z)]; exact r2
  · rw [e3 dk h1.d3 (ne_kind k2 hl1 fun z => nomatch z)]; exact k2
  · rw [upd_ne nld.symm, ← eH2]; exact upd_same
  · unfold putK
    split
    · rw [List.length_map, List.length_append]; omega
    · rw [List.length_append, List.length_append]; simp only [List.length_singleton]; omega
  · rw [valV_put]
    by_cases c : k = f.kind ∧ a = f.points.getD 0 0 ∧ b = f.points.getD 1 0
    · obtain ⟨rfl, rfl, rfl⟩ := c
      rw [if_pos rfl, if_pos ⟨rfl, rfl, rfl⟩]
      rfl
    · rw [if_neg fun z => c (keyS_inj z), if_neg c, hv]
  · split at z
    · rename_i c
      obtain ⟨rfl, rfl, rfl⟩ := c
      obtain rfl := Option.some.inj z
      rw [List.filter_append, h.hasnt _ _ _ hL, List.nil_append, List.filter_cons_of_pos (startIs_self f), List.filter_nil]
      exact ⟨_, upd_same, .cons (t2.tp (t1.tp hf1)) .nil⟩
    · rename_i c
      rw [hsplit k a b c]
      exact lsx (h1.has k a b l2 z) fun e => nLl k a b (by rw [z, e])
  · split at z
    · cases z
    · rename_i c
      rw [hsplit k a b c]
      exact h.hasnt k a b z
  · split at z <;> split at z'
    · rename_i c c'
      omega
    · obtain rfl := Option.some.inj z
      exact absurd z' (nLl _ _ _)
    · obtain rfl := Option.some.inj z'
      exact absurd z (nLl _ _ _)
    · exact h.inj _ _ _ _ _ _ _ z z'
  · split
    · exact fun e => nlo (Option.some.inj e).symm
    · exact h.lo_ne k a b
  · split at z
    · obtain rfl := Option.some.inj z
      exact f0
    · exact h.fL k a b l2 z
  · dsimp only at z
    split at z
    · exact .inl (Option.some.inj z).symm
    · exact .inr z
end
end G
set_option Elab.async false
set_option maxRecDepth 100000
set_option maxHeartbeats 4000000
namespace G
open PySem PySem.Spec PyProof.Rows L2
open Kh375 (Fact Rule)
theorem cut3 {f : Fact} (h : 3 ≤ f.points.length) : cutV (fV f) none (some 3) = (key3 f).map kV := by
  obtain ⟨k, ps⟩ := f
  match ps, h with
  | a :: b :: c :: r, _ =>
    unfold cutV
    rw [show (some (3 : Int)) = some ((3 : Nat) : Int) from rfl, HT.sIx_nat, HT.sIx_none]
    have e : min 3 (fV ⟨k, a :: b :: c :: r⟩).length = 3 := by simp only [fV, List.length_map, List.length_cons]; omega
    rw [e]
    rfl
theorem cut3_not {f : Fact} (h : 3 ≤ f.points.length) : ¬ (HT.sIx (fV f).length 0 none = 0 ∧ HT.sIx (fV f).length (fV f).length (some 3) = (fV f).length) := by
  rintro ⟨_, z⟩
  rw [show (some (3 : Int)) = some ((3 : Nat) : Int) from rfl, HT.sIx_nat] at z
  simp only [fV, List.length_map, List.length_cons] at z
  omega
theorem keep {H : Hp} {a b : Addr} {u : HO} {o : Option HO} (h : H b = o) (ne : b ≠ a) : upd H a u b = o := (upd_ne ne).trans h
section
variable {P : Program} {w : World} {K : PySem.W.Frag} {mg : Str → Option Value} {base : Heap} {A : Ad}
/-! Theory: slots 0 self, 1 many -/
abbrev s_Theory : Stmt := inClass (topS 36) 0
abbrev N_Theory : List Str := ["self", "many"]
theorem sc_Theory : FnScope N_Theory ["self", "many"] (defScope s_Theory) := C8.fnScope_by (by decide +kernel)
/-- a new theory -/
def sp_Theory (A : Ad) : Sp := fun vs H Q _ => ∃ (x dx : Addr) (n : Nat) (H0 : Hp), vs = [.ref x, vN n] ∧ H x = some (.ins A.ct dx []) ∧ L2.Same H0 H ∧ H0 x = none ∧
  ∀ H', ThAt A H0 H' x n [] → L2.Same H0 H' → Q .non H'
theorem c_Theory (T : Txt K mg A) : C8.Mak P w K mg base 1 "Theory" A.ct (sp_Theory A) [] := by
  obtain ⟨f, fd, M, F, b⟩ := T.k_Theory.ex
  refine C8.mak0 M T.k_Theory.mgC F b .nil sc_Theory ?_ ?_
  · rintro vs H Q E ⟨x, dx, n, H0, rfl, _⟩
    rfl
  · rintro cdv _ outer s H vs Q E hr ⟨x, dx, n, H0, rfl, hx, sm, fx, q⟩
    refine ⟨_, (pss_cons (ps_fld (pv 0) (pv 1) rfl)
        (pss_cons (ps_fld (pv 0) (pe_lst pa_nil) rfl)
        (pss_cons (ps_fld (pv 0) pe_dnewT rfl)
        (pss_cons (ps_fld (pv 0) pe_dnewT rfl)
        (pss_one (ps_fld (pv 0) pe_dnewT rfl)))))), ?_⟩
    refine ⟨_, rfl, _, rfl, x, A.ct, dx, _, rfl, hx, T.k_Theory.cl, T.t_many, by decide, ?_⟩
    have sm1 := sm.mut (o := .ins A.ct dx (putF "many" (vN n) [])) fx
    have hx1 : upd H x (.ins A.ct dx (putF "many" (vN n) [])) x = _ := upd_same
    generalize upd H x (.ins A.ct dx (putF "many" (vN n) [])) = H1 at *
    refine ⟨Nat.zero_le _, fun lo nlo => ?_⟩
    (generalize hgen : upd _ _ _ = H2; have m2 := grow_same hgen nlo; have t2 := grow_at hgen; clear hgen)
    have hx2 := m2 _ _ hx1
    refine ⟨_, rfl, x, A.ct, dx, _, rfl, hx2, T.k_Theory.cl, T.t_order, (show 1 < 1000 by decide), ?_⟩
    have xlo : lo ≠ x := ne_kind t2 hx2 fun z => nomatch z
    have l3 : upd H2 x (.ins A.ct dx (putF "order" (.ref lo) (putF "many" (vN n) []))) lo = some (.lst []) := by rw [upd_ne xlo]; exact t2
    have sm3 := (sm1.trans m2).mut (o := .ins A.ct dx (putF "order" (.ref lo) (putF "many" (vN n) []))) fx
    have f0lo : H0 lo = none := sm1.free nlo
    have hx3 : upd H2 x (.ins A.ct dx (putF "order" (.ref lo) (putF "many" (vN n) []))) x = _ := upd_same
    generalize upd H2 x (.ins A.ct dx (putF "order" (.ref lo) (putF "many" (vN n) []))) = H3 at *
    refine fun dr ndr => ?_
    (generalize hgen : upd _ _ _ = H4; have m4 := grow_same hgen ndr; have t4 := grow_at hgen; clear hgen)
    have hx4 := m4 _ _ hx3
    refine ⟨_, rfl, x, A.ct, dx, _, rfl, hx4, T.k_Theory.cl, T.t_rounds, (show 2 < 1000 by decide), ?_⟩
    have f0dr : H0 dr = none := sm3.free ndr
    have sm5 := (sm3.trans m4).mut (o := .ins A.ct dx (putF "rounds" (.ref dr) (putF "order" (.ref lo) (putF "many" (vN n) [])))) fx
    have l5 : upd H4 x (.ins A.ct dx (putF "rounds" (.ref dr) (putF "order" (.ref lo) (putF "many" (vN n) [])))) lo = some (.lst []) := by rw [upd_ne xlo]; exact m4 _ _ l3
    have r5 : upd H4 x (.ins A.ct dx (putF "rounds" (.ref dr) (putF "order" (.ref lo) (putF "many" (vN n) [])))) dr = some (.dT []) := by rw [upd_ne (ne_kind t4 hx4 fun z => nomatch z)]; exact t4
    have hx5 : upd H4 x (.ins A.ct dx (putF "rounds" (.ref dr) (putF "order" (.ref lo) (putF "many" (vN n) [])))) x = _ := upd_same
    generalize upd H4 x (.ins A.ct dx (putF "rounds" (.ref dr) (putF "order" (.ref lo) (putF "many" (vN n) [])))) = H5 at *
    refine fun dk ndk => ?_
    (generalize hgen : upd _ _ _ = H6; have m6 := grow_same hgen ndk; have t6 := grow_at hgen; clear hgen)
    have hx6 := m6 _ _ hx5
    refine ⟨_, rfl, x, A.ct, dx, _, rfl, hx6, T.k_Theory.cl, T.t_known, (show 3 < 1000 by decide), ?_⟩
    have f0dk : H0 dk = none := sm5.free ndk
    have krd : dr ≠ dk := ne_of_none r5 ndk
    generalize eo : (HO.ins A.ct dx (putF "known" (V.ref dk) (putF "rounds" (V.ref dr) (putF "order" (V.ref lo) (putF "many" (vN n) []))))) = o7
    have kin : ∀ xs, o7 ≠ HO.lst xs := fun _ z => by subst eo; cases z
    have sm7 := (sm5.trans m6).mut (o := o7) fx
    have l7 : upd H6 x o7 lo = some (.lst []) := by rw [upd_ne xlo]; exact m6 _ _ l5
    have r7 : upd H6 x o7 dr = some (.dT []) := by rw [upd_ne (ne_kind r5 hx5 fun z => nomatch z)]; exact m6 _ _ r5
    have k7 : upd H6 x o7 dk = some (.dT []) := by rw [upd_ne (ne_kind t6 hx6 fun z => nomatch z)]; exact t6
    have hx7 : upd H6 x o7 x = _ := upd_same
    generalize upd H6 x o7 = H7 at *
    subst eo
    refine fun ds nds => ?_
    (generalize hgen : upd _ _ _ = H8; have m8 := grow_same hgen nds; have t8 := grow_at hgen; clear hgen)
    have hx8 := m8 _ _ hx7
    refine ⟨_, rfl, x, A.ct, dx, _, rfl, hx8, T.k_Theory.cl, T.t_starts, (show 4 < 1000 by decide), ?_⟩
    have f0ds : H0 ds = none := sm7.free nds
    refine q _ ⟨dx, lo, dr, dk, ds, fun _ _ _ => none, ?_⟩ ((sm7.trans m8).mut fx)
    exact { ins := upd_same
            order := ⟨[], by rw [upd_ne xlo]; exact m8 _ _ l7, .nil⟩
            rounds := ⟨[], by rw [upd_ne (ne_kind r7 hx7 fun z => nomatch z)]; exact m8 _ _ r7, Nat.le_refl _, fun f => rfl⟩
            known := ⟨[], by rw [upd_ne (ne_kind k7 hx7 fun z => nomatch z)]; exact m8 _ _ k7, Nat.le_refl _, fun f => by simp [valV, Mi.readsOf]⟩
            starts := ⟨[], by rw [upd_ne (ne_kind t8 hx8 fun z => nomatch z)]; exact t8, Nat.le_refl _, fun k a b => rfl⟩
            has := fun _ _ _ _ z => nomatch z
            hasnt := fun _ _ _ _ => rfl
            inj := fun _ _ _ _ _ _ _ z _ => nomatch z
            lo_ne := fun _ _ _ z => nomatch z
            d1 := krd
            d2 := ne_of_none r7 nds
            d3 := ne_of_none k7 nds
            ft := fx
            flo := f0lo
            fdr := f0dr
            fdk := f0dk
            fds := f0ds
            fL := fun _ _ _ _ z => nomatch z }
/-! learn: slots 0 theory, 1 fact, 2 number, 3 reading, 4 start -/
abbrev s_learn : Stmt := topS 37
abbrev N_learn : List Str := ["theory", "fact", "number", "reading", "start"]
theorem sc_learn : FnScope N_learn ["theory", "fact", "number"] (defScope s_learn) := C8.fnScope_by (by decide +kernel)
def sp_learn (A : Ad) : Sp := fun vs H Q _ => ∃ (t : Addr) (vf : V) (n r : Nat) (f : Fact) (H0 : Hp) (es : List (Fact × Nat)), vs = [.ref t, vf, vN r] ∧ ThAt A H0 H t n es ∧ L2.Same H0 H ∧ Tp H vf f ∧ Mi.NF f ∧ es.length ≤ 1000 ∧ f ∉ es.map (·.1) ∧
  ∀ H', ThAt A H0 H' t n (es ++ [(f, r)]) → L2.Same H0 H' → Tk H H' → Q .non H'
theorem c_learn (T : Txt K mg A) : C8.Cal P w K mg base 4 "learn" (sp_learn A) [] := by
  obtain ⟨f, fd, F, b⟩ := T.d_learn.ex
  refine C8.cal0 F b .nil sc_learn ?_ ?_
  · rintro vs H Q E ⟨t, vf, n, r, f, H0, es, rfl, _⟩
    rfl
  · rintro cdv _ outer s H vs Q E hr ⟨t, vf, n, r, f, H0, es, rfl, ⟨dx, lo, dr, dk, ds, L, h⟩, sm, hf, nf, hlen, hnew, q⟩
    refine ⟨_, (pss_cons (ps_expr (pe_bm PySem.F.plainAttrs_list PySem.F.slot_list_append PySem.F.type_list_append mt_append (pe_fld (pv 0) rfl) (pa_cons (pv 1) pa_nil)))
        (pss_cons (ps_dput (hu_of hr) (pe_fld (pv 0) rfl) (pv 1) (pv 2) rfl)
        (pss_one (ps_for PassesOwn.never rfl (pi_list (C8.pe_c (c_readings T) hr (by decide) rfl (pa_cons (pv 1) pa_nil))) (pg_name (i := 3) sc_learn.nd rfl (Or.inl rfl))
        (pss_cons (ps_dput (hu_of hr) (pe_fld (pv 0) rfl) (pv 3) pe_bl rfl)
        (pss_cons (ps_set (i := 4) sc_learn.nd rfl (Or.inl rfl) (pe_slice sl_tup (pv 3) po_none (po_some pe_int)))
        (pss_cons (ps_if (pt_cmp (pc_dnotin (hu_of hr) (pv 4) (pe_fld (pv 0) rfl)) rfl) (pss_one (ps_dput (hu_of hr) (pe_fld (pv 0) rfl) (pv 4) (pe_lst pa_nil) rfl)) pss_nil)
        (pss_one (ps_expr (pe_bm PySem.F.plainAttrs_list PySem.F.slot_list_append PySem.F.type_list_append mt_append (pe_dget (hu_of hr) (pe_fld (pv 0) rfl) (pv 4) (fun _ _ => rfl)) (pa_cons (pv 3) pa_nil))))))))))), ?_⟩
    have rl := Mi.readsOf_len es
    obtain ⟨ov, o2, o3⟩ := h.order
    have ol := o3.length
    refine ⟨_, rfl, t, A.ct, dx, _, _, rfl, h.ins, T.k_Theory.cl, T.t_order, rfl, .inl ⟨rfl, _, SqL.of o2⟩, _, rfl, lo, _, _, rfl, rfl, o2, ?_, ?_⟩
    · refine small_line ?_
      rw [ol, List.length_map]
      omega
    have h1 := h.putOrder hf o2 o3
    have sm1 := sm.mut (o := .lst (ov ++ [vf])) h.flo
    have tk1 := tk_lst (o := .lst (ov ++ [vf])) o2
    generalize upd H lo (.lst (ov ++ [vf])) = H1 at *
    obtain ⟨rv, r2, r3, r4⟩ := h1.rounds
    have hf1 := tk1.tp hf
    obtain ⟨af, rfl, haf⟩ := hf1
    refine ⟨_, rfl, _, rfl, t, A.ct, dx, _, _, rfl, h1.ins, T.k_Theory.cl, T.t_rounds, rfl, _, rfl, dr, _, rfl, DPut.t r2 (by rw [keyF_kV]; exact haf) (small_line (by omega)), ?_⟩
    have h2 := h1.putRound (r := r) r2 r3 r4 hnew
    have sm2 := sm1.mut (o := .dT (putK rv (keyF f) (vN r))) h.fdr
    have tk2 : Tk H (upd H1 dr (.dT (putK rv (keyF f) (vN r)))) := Tk.mut tk1 r2 fun _ z => nomatch z
    generalize upd H1 dr (.dT (putK rv (keyF f) (vN r))) = H2 at *
    refine ⟨_, rfl, _, f, rfl, tk2.tp hf, nf, fun H3 p us m3 np hp hus => ?_⟩
    have h3 := h2.same m3
    have rfl24 : (Mi.readings f).length ≤ 24 := by
      unfold Mi.readings
      rw [List.length_map]
      exact Mi.orders_len _
    have H0p : H0 p = none := sm2.free np
    refine ⟨p, rfl, ⟨us, SqL.of hp⟩, for_list (K := K) (a := p) (xs := us) (fun i σ Hc => ∃ x3 x4 L, σ = [some (.ref t), some (.ref af), some (vN r), x3, x4] ∧ ThIs A H0 Hc t n (es.map (·.1) ++ [f]) (es ++ [(f, r)]) (Mi.readsOf es ++ (Mi.readings f).take i) (Mi.readsOf es ++ (Mi.readings f).take i) dx lo dr dk ds L ∧
        L2.Same H0 Hc ∧ Tk H3 Hc ∧ Hc p = some (.lst us) ∧ (∀ k a b, L k a b ≠ some p) ∧ lo ≠ p)
      ⟨none, none, L, rfl, by simpa using h3, sm2.trans m3, fun _ _ z => z, hp, fun k a b z => ?_, fun z => ?_⟩ (fun i σ Hc _ ⟨_, _, _, _, _, _, _, z, _⟩ => SqL.of z) ?_ ?_⟩
    · obtain ⟨q1, q2, _⟩ := h2.has k a b p z
      rw [np] at q2
      cases q2
    · obtain ⟨q1, q2, _⟩ := h2.order
      rw [z, np] at q2
      cases q2
    · rintro i y σ Hc hy ⟨x3, x4, L, rfl, hc, sm4, tk4, hpc, npL, nplo⟩
      obtain ⟨rd, hrd, arf⟩ := paired_at hus hy
      have i24 : i < 24 := Nat.lt_of_lt_of_le (List.getElem?_eq_some_iff.mp hrd).1 rfl24
      have takei : ((Mi.readings f).take i).length ≤ 24 := Nat.le_trans (List.length_take_le _ _) (by omega)
      have rlen : 3 ≤ rd.points.length := by
        rw [(Mi.reading_same nf (List.mem_of_getElem? hrd)).2, nf.len]
        have hk := nf.kind
        generalize f.kind = kk at hk
        have : kk = 0 ∨ kk = 1 ∨ kk = 2 ∨ kk = 3 ∨ kk = 4 ∨ kk = 5 ∨ kk = 6 := by omega
        rcases this with rfl | rfl | rfl | rfl | rfl | rfl | rfl <;> decide
      obtain ⟨ar, rfl, har⟩ := tk4.tp arf
      -- theory.known[reading] = True
      obtain ⟨kv, k2, k3, k4⟩ := hc.known
      refine ⟨_, rfl, t, A.ct, dx, _, _, rfl, hc.ins, T.k_Theory.cl, T.t_known, rfl, _, rfl, dk, _, rfl, DPut.t k2 (by rw [keyF_kV]; exact har) (small_line ?_), ?_⟩
      · rw [List.length_append] at k3
        omega
      have hc1 := hc.putKnown (f := rd) (v := .bl true) k2 k3 k4
      have sm5 := sm4.mut (o := .dT (putK kv (keyF rd) (.bl true))) hc.fdk
      have tk5 : Tk H3 (upd Hc dk (.dT (putK kv (keyF rd) (.bl true)))) := Tk.mut tk4 k2 fun _ z => nomatch z
      have har5 : upd Hc dk (.dT (putK kv (keyF rd) (.bl true))) ar = _ := keep har (ne_kind har k2 fun z => nomatch z)
      have hp5 : upd Hc dk (.dT (putK kv (keyF rd) (.bl true))) p = some (.lst us) := by rw [upd_ne (ne_kind hpc k2 fun z => nomatch z)]; exact hpc
      generalize upd Hc dk (.dT (putK kv (keyF rd) (.bl true))) = H5 at *
      -- start = reading[:3]
      refine ⟨_, rfl, _, rfl, ar, _, rfl, SqT.of har5, cut3_not rlen, fun st nst => ?_⟩
      rw [cut3 rlen]
      (generalize hgen : upd _ _ _ = H6; have m6 := grow_same hgen nst; have t6 := grow_at hgen; clear hgen)
      have hc6 := hc1.same m6
      obtain ⟨sv, s2, s3, s4⟩ := hc6.starts
      refine ⟨_, rfl, _, rfl, t, A.ct, dx, _, _, rfl, hc6.ins, T.k_Theory.cl, T.t_starts, rfl, ds, _, rfl, DGet.t s2 t6, _, rfl, ite2 (fun hb => ?_) fun hb => ?_⟩
      · have hn : L rd.kind (rd.points.getD 0 0) (rd.points.getD 1 0) = none := by
          rw [s4] at hb
          cases e : L rd.kind (rd.points.getD 0 0) (rd.points.getD 1 0) with
          | none => rfl
          | some l => rw [e] at hb; cases hb
        refine ⟨Nat.zero_le _, fun l nl => ?_⟩
        have fl0 : H0 l = none := (sm5.trans m6).free nl
        obtain ⟨L', hc7, hL7⟩ := hc6.putNew (v := .ref ar) ⟨ar, rfl, m6 _ _ har5⟩ hn s2 s3 s4 nl fl0
        have lds : l ≠ ds := fun z => by rw [z, s2] at nl; cases nl
        have hl7 : upd (upd H6 l (.lst [])) ds (.dT (putK sv (key3 rd) (.ref l))) l = some (.lst []) := by rw [upd_ne lds]; exact upd_same
        have hs7 : upd H6 l (.lst []) ds = some (.dT sv) := L2.Same.new nl _ _ s2
        have hi7 : upd H6 l (.lst []) t = _ := L2.Same.new nl _ _ hc6.ins
        have st7 : upd H6 l (.lst []) st = _ := L2.Same.new nl _ _ t6
        refine ⟨_, rfl, t, A.ct, dx, _, _, rfl, hi7, T.k_Theory.cl, T.t_starts, rfl, _, rfl, ds, _, rfl, DPut.t hs7 st7 (small_line ?_), ?_⟩
        · rw [List.length_append] at s3
          omega
        have hi8 : upd (upd H6 l (.lst [])) ds (.dT (putK sv (key3 rd) (.ref l))) t = _ := keep hi7 (ne_kind hi7 hs7 fun z => nomatch z)
        have st8 : upd (upd H6 l (.lst [])) ds (.dT (putK sv (key3 rd) (.ref l))) st = _ := keep st7 (ne_kind st7 hs7 fun z => nomatch z)
        have hg : DGet (upd (upd H6 l (.lst [])) ds (.dT (putK sv (key3 rd) (.ref l)))) ds (.ref st) (some (.ref l)) := by
          have z := DGet.t (H := upd (upd H6 l (.lst [])) ds (.dT (putK sv (key3 rd) (.ref l)))) upd_same st8
          rw [valV_put, if_pos rfl] at z
          exact z
        refine ⟨_, rfl, t, A.ct, dx, _, _, rfl, hi8, T.k_Theory.cl, T.t_starts, rfl, _, rfl, ds, _, rfl, hg, .inl ⟨rfl, _, SqL.of hl7⟩, _, rfl, l, _, _, rfl, rfl, hl7, small_line (by decide), ?_⟩
        refine ⟨_, _, L', rfl, ?_, ?_, ?_, ?_, fun k a b z => ?_, nplo⟩
        · rw [take_snoc hrd, ← List.append_assoc]
          exact hc7
        · exact (((sm5.trans m6).mut fl0).mut hc6.fds).mut fl0
        · have k1 : Tk H3 (upd H6 l (.lst [])) := (tk5.trans m6.tk).trans (L2.Same.new nl).tk
          have k2 : Tk H3 (upd (upd H6 l (.lst [])) ds (.dT (putK sv (key3 rd) (.ref l)))) := Tk.mut k1 hs7 fun _ z => nomatch z
          exact Tk.mut k2 hl7 fun _ z => nomatch z
        · have pl : p ≠ l := ne_of_none (m6 _ _ hp5) nl
          rw [upd_ne pl, upd_ne (ne_kind (m6 _ _ hp5) s2 fun z => nomatch z), upd_ne pl]
          exact m6 _ _ hp5
        · rcases hL7 k a b p z with rfl | z
          · rw [m6 _ _ hp5] at nl
            cases nl
          · exact npL k a b z
      · obtain ⟨l, hL⟩ : ∃ l, L rd.kind (rd.points.getD 0 0) (rd.points.getD 1 0) = some l := by
          rw [s4] at hb
          cases e : L rd.kind (rd.points.getD 0 0) (rd.points.getD 1 0) with
          | none => rw [e] at hb; exact absurd rfl hb
          | some l => exact ⟨l, rfl⟩
        obtain ⟨lv, l2, l3⟩ := hc6.has _ _ _ _ hL
        have hg : DGet H6 ds (.ref st) (some (.ref l)) := by
          have z := DGet.t s2 t6
          rw [s4, hL] at z
          exact z
        have ll := l3.length
        have lf := List.length_filter_le (Mi.startIs rd.kind (rd.points.getD 0 0) (rd.points.getD 1 0)) (Mi.readsOf es ++ List.take i (Mi.readings f))
        rw [List.length_append] at lf
        refine ⟨_, rfl, t, A.ct, dx, _, _, rfl, hc6.ins, T.k_Theory.cl, T.t_starts, rfl, _, rfl, ds, _, rfl, hg, .inl ⟨rfl, _, SqL.of l2⟩, _, rfl, l, lv, .ref ar, rfl, rfl, l2, small_line (by omega), ?_⟩
        have hc7 := hc6.putOld (v := .ref ar) ⟨ar, rfl, m6 _ _ har5⟩ hL l2 l3
        refine ⟨_, _, L, rfl, ?_, (sm5.trans m6).mut (hc6.fL _ _ _ _ hL), Tk.mut (tk5.trans m6.tk) l2 (fun _ z => nomatch z), ?_, npL, nplo⟩
        · rw [take_snoc hrd, ← List.append_assoc]
          exact hc7
        · rw [upd_ne fun z => npL _ _ _ (by rw [z]; exact hL)]
          exact m6 _ _ hp5
    · rintro σ Hc ⟨x3, x4, L, rfl, hc, sm4, tk4, hpc, npL, nplo⟩
      have e : us.length = (Mi.readings f).length := hus.length
      rw [e, List.take_length] at hc
      refine q Hc ⟨dx, lo, dr, dk, ds, L, ?_⟩ sm4 ((tk2.trans m3.tk).trans tk4)
      rw [List.map_append, Mi.readsOf_snoc]
      exact hc
end
end G
/-! choices, spread, derived over the specification's data. -/
namespace Mi
open Kh375
/-! ### rows and their completions -/
def fits (n : Nat) (o : Option Nat) (p : Nat) : Prop := match o with
  | none => p < n
  | some q => p = q
theorem mem_step {n : Nat} {rows : List (List Nat)} {v : Option Nat} {x : List Nat} : x ∈ asgStep n rows v ↔ ∃ y ∈ rows, ∃ p, x = y ++ [p] ∧ fits n v p := by
  cases v with
  | none =>
    simp only [asgStep, List.mem_flatMap, List.mem_map, List.mem_range, fits]
    constructor
    · rintro ⟨y, hy, p, hp, rfl⟩; exact ⟨y, hy, p, rfl, hp⟩
    · rintro ⟨y, hy, p, rfl, hp⟩; exact ⟨y, hy, p, hp, rfl⟩
  | some q =>
    simp only [asgStep, List.mem_map, fits]
    constructor
    · rintro ⟨y, hy, rfl⟩; exact ⟨y, hy, q, rfl, rfl⟩
    · rintro ⟨y, hy, p, rfl, rfl⟩; exact ⟨y, hy, rfl⟩
theorem mem_take {n : Nat} {vals : Row} : ∀ {i : Nat} {x : List Nat}, i ≤ vals.length → (x ∈ asg n (vals.take i) ↔ x.length = i ∧ ∀ j, j < i → fits n (vals.getD j none) (x.getD j 0))
  | 0, x, _ => by
    simp only [List.take_zero]
    show x ∈ [[]] ↔ _
    rw [List.mem_singleton]
    constructor
    · rintro rfl; exact ⟨rfl, fun j hj => absurd hj (Nat.not_lt_zero _)⟩
    · rintro ⟨h, _⟩; exact List.eq_nil_of_length_eq_zero h
  | i + 1, x, h => by
    have hv : vals[i]? = some (vals.getD i none) := by
      rw [List.getElem?_eq_getElem (by omega)]
      simp [List.getD_eq_getElem?_getD, List.getElem?_eq_getElem (show i < vals.length by omega)]
    rw [asg_take hv, mem_step]
    constructor
    · rintro ⟨y, hy, p, rfl, hp⟩
      obtain ⟨hl, hf⟩ := (mem_take (by omega)).mp hy
      refine ⟨by rw [List.length_append, hl]; rfl, fun j hj => ?_⟩
      by_cases c : j = i
      · subst c
        have e : (y ++ [p]).getD j 0 = p := by
          rw [List.getD_eq_getElem?_getD, List.getElem?_append_right (by omega), hl, Nat.sub_self]
          rfl
        rw [e]
        exact hp
      · have := hf j (by omega)
        rw [List.getD_eq_getElem?_getD (l := y ++ [p]), List.getElem?_append_left (by omega), ← List.getD_eq_getElem?_getD]
        exact this
    · rintro ⟨hl, hf⟩
      refine ⟨x.take i, (mem_take (by omega)).mpr ⟨by rw [List.length_take]; omega, fun j hj => ?_⟩, x.getD i 0, ?_, hf i (by omega)⟩
      · have e : (x.take i).getD j 0 = x.getD j 0 := by
          rw [List.getD_eq_getElem?_getD, List.getElem?_take, if_pos hj, ← List.getD_eq_getElem?_getD]
        rw [e]
        exact hf j (by omega)
      · have e : x = x.take (i + 1) := by rw [List.take_of_length_le (by omega)]
        have e2 : x[i]? = some (x.getD i 0) := by
          rw [List.getElem?_eq_getElem (by omega)]
          simp [List.getD_eq_getElem?_getD, List.getElem?_eq_getElem (show i < x.length by omega)]
        rw [List.getElem?_eq_some_iff] at e2
        obtain ⟨hi, e2⟩ := e2
        conv => lhs; rw [e]
        rw [← List.take_append_getElem hi, e2]
theorem mem_asg {n : Nat} {vals : Row} {x : List Nat} : x ∈ asg n vals ↔ x.length = vals.length ∧ ∀ j, j < vals.length → fits n (vals.getD j none) (x.getD j 0) := by
  have := mem_take (n := n) (vals := vals) (i := vals.length) (x := x) (Nat.le_refl _)
  rw [List.take_length] at this
  exact this
/-! ### the order of the completions -/
theorem lex_irrefl : ∀ l : List Nat, isLexLess l l = false
  | [] => rfl
  | x :: l => by simp [isLexLess, lex_irrefl l]
theorem lex_snoc : ∀ {a b : List Nat} (p q : Nat), a.length = b.length → isLexLess a b = true → isLexLess (a ++ [p]) (b ++ [q]) = true
  | [], [], _, _, _, h => by cases h
  | x :: a, y :: b, p, q, hl, h => by
    simp only [List.cons_append, isLexLess, Bool.or_eq_true, decide_eq_true_eq, Bool.and_eq_true] at h ⊢
    rcases h with h | ⟨h1, h2⟩
    · exact .inl h
    · exact .inr ⟨h1, lex_snoc p q (by simpa using hl) h2⟩
theorem lex_last : ∀ (a : List Nat) {p q : Nat}, p < q → isLexLess (a ++ [p]) (a ++ [q]) = true
  | [], p, q, h => by simp [isLexLess, h]
  | x :: a, p, q, h => by simp [isLexLess, lex_last a h]
theorem step_up {n : Nat} {rows : List (List Nat)} {k : Nat} (hk : ∀ r ∈ rows, r.length = k) (h : rows.Pairwise fun a b => isLexLess a b = true) (v : Option Nat) : (asgStep n rows v).Pairwise fun a b => isLexLess a b = true := by
  cases v with
  | none =>
    show (rows.flatMap fun r => (List.range n).map fun p => r ++ [p]).Pairwise _
    rw [List.pairwise_flatMap]
    refine ⟨fun r _ => ?_, ?_⟩
    · rw [List.pairwise_map]
      exact List.pairwise_lt_range.imp fun h => lex_last r h
    · refine h.imp_of_mem fun {a b} ha hb hab => ?_
      intro x hx y hy
      obtain ⟨p, _, rfl⟩ := List.mem_map.mp hx
      obtain ⟨q, _, rfl⟩ := List.mem_map.mp hy
      exact lex_snoc p q (by rw [hk a ha, hk b hb]) hab
  | some p =>
    show (rows.map fun r => r ++ [p]).Pairwise _
    rw [List.pairwise_map]
    exact h.imp_of_mem fun {a b} ha hb hab => lex_snoc p p (by rw [hk a ha, hk b hb]) hab
theorem asg_up_go {n : Nat} : ∀ (vals : Row) (rows : List (List Nat)) (k : Nat), (∀ r ∈ rows, r.length = k) → rows.Pairwise (fun a b => isLexLess a b = true) → (vals.foldl (asgStep n) rows).Pairwise fun a b => isLexLess a b = true
  | [], rows, k, _, h => h
  | v :: vals, rows, k, hk, h => by
    refine asg_up_go vals (asgStep n rows v) (k + 1) (fun r hr => ?_) (step_up hk h v)
    obtain ⟨y, hy, p, rfl, _⟩ := mem_step.mp hr
    rw [List.length_append, hk y hy]
    rfl
theorem asg_up (n : Nat) (vals : Row) : (asg n vals).Pairwise fun a b => isLexLess a b = true := asg_up_go vals [[]] 0 (by simp) (List.pairwise_singleton _ _)
theorem asg_nodup (n : Nat) (vals : Row) : (asg n vals).Nodup := (asg_up n vals).imp fun {a b} h e => by
  subst e
  rw [lex_irrefl] at h
  cases h
/-! ### a nodup list inside another -/
theorem sub_len {α : Type} [DecidableEq α] : ∀ {l m : List α}, l.Nodup → (∀ x ∈ l, x ∈ m) → l.length ≤ m.length
  | [], _, _, _ => Nat.zero_le _
  | a :: l, m, hn, hs => by
    rw [List.nodup_cons] at hn
    have ha := hs a (List.mem_cons_self ..)
    have h := sub_len (l := l) (m := m.erase a) hn.2 fun x hx => (List.mem_erase_of_ne (fun e => hn.1 (by rw [← e]; exact hx))).mpr (hs x (List.mem_cons_of_mem _ hx))
    rw [List.length_erase_of_mem ha] at h
    have : 0 < m.length := List.length_pos_of_mem ha
    rw [List.length_cons]
    omega
/-! ### matching -/
theorem getD_set {α : Type} {l : List α} {i j : Nat} {a d : α} (h : i < l.length) : (l.set i a).getD j d = if j = i then a else l.getD j d := by
  rw [List.getD_eq_getElem?_getD, List.getElem?_set, List.getD_eq_getElem?_getD]
  by_cases c : i = j
  · subst c
    simp [h]
  · rw [if_neg c, if_neg (Ne.symm c)]
theorem asg_set {n : Nat} {r : Row} {i p : Nat} {x : List Nat} (hi : i < r.length) (ho : r.getD i none = none) (hp : p < n) : x ∈ asg n (r.set i (some p)) ↔ x ∈ asg n r ∧ x.getD i 0 = p := by
  rw [mem_asg, mem_asg, List.length_set]
  constructor
  · rintro ⟨hl, hf⟩
    have hx : x.getD i 0 = p := by
      have := hf i hi
      rw [getD_set hi, if_pos rfl] at this
      exact this
    refine ⟨⟨hl, fun j hj => ?_⟩, hx⟩
    by_cases c : j = i
    · subst c
      rw [ho, hx]
      exact hp
    · have := hf j hj
      rw [getD_set hi, if_neg c] at this
      exact this
  · rintro ⟨⟨hl, hf⟩, hx⟩
    refine ⟨hl, fun j hj => ?_⟩
    rw [getD_set hi]
    by_cases c : j = i
    · subst c
      rw [if_pos rfl]
      exact hx
    · rw [if_neg c]
      exact hf j hj
theorem go_some {n : Nat} : ∀ {l : List (Nat × Nat)} {r r' : Row}, (∀ q ∈ l, q.1 < r.length ∧ q.2 < n) → matchGo l r = some r' → ∀ x, x ∈ asg n r' ↔ x ∈ asg n r ∧ ∀ q ∈ l, x.getD q.1 0 = q.2
  | [], r, r', _, h, x => by
    obtain rfl := Option.some.inj h
    simp
  | (i, p) :: l, r, r', hl, h, x => by
    have hi := hl (i, p) (List.mem_cons_self ..)
    cases e : r.getD i none with
    | none =>
      rw [matchGo_none e] at h
      rw [go_some (fun q hq => by rw [List.length_set]; exact hl q (List.mem_cons_of_mem _ hq)) h x, asg_set hi.1 e hi.2]
      simp only [List.mem_cons, forall_eq_or_imp, and_assoc]
    | some q =>
      by_cases c : q = p
      · subst c
        rw [matchGo_same e] at h
        rw [go_some (fun q hq => hl q (List.mem_cons_of_mem _ hq)) h x]
        simp only [List.mem_cons, forall_eq_or_imp]
        constructor
        · rintro ⟨h1, h2⟩
          refine ⟨h1, ?_, h2⟩
          have := (mem_asg.mp h1).2 i hi.1
          rw [e] at this
          exact this
        · rintro ⟨h1, _, h2⟩
          exact ⟨h1, h2⟩
      · rw [matchGo_other e c] at h
        cases h
theorem go_none {n : Nat} : ∀ {l : List (Nat × Nat)} {r : Row}, (∀ q ∈ l, q.1 < r.length ∧ q.2 < n) → matchGo l r = none → ∀ x ∈ asg n r, ¬ ∀ q ∈ l, x.getD q.1 0 = q.2
  | [], r, _, h, x, _ => by cases h
  | (i, p) :: l, r, hl, h, x, hx => by
    have hi := hl (i, p) (List.mem_cons_self ..)
    intro hall
    cases e : r.getD i none with
    | none =>
      rw [matchGo_none e] at h
      exact go_none (fun q hq => by rw [List.length_set]; exact hl q (List.mem_cons_of_mem _ hq)) h x ((asg_set hi.1 e hi.2).mpr ⟨hx, hall _ (List.mem_cons_self ..)⟩) fun q hq => hall q (List.mem_cons_of_mem _ hq)
    | some q =>
      by_cases c : q = p
      · subst c
        rw [matchGo_same e] at h
        exact go_none (fun q hq => hl q (List.mem_cons_of_mem _ hq)) h x hx fun q hq => hall q (List.mem_cons_of_mem _ hq)
      · have h1 := (mem_asg.mp hx).2 i hi.1
        rw [e] at h1
        exact c ((hall _ (List.mem_cons_self ..)).symm.trans h1 |>.symm)
/-- closed at a variable -/
def Cl (r : Row) (i : Nat) : Prop := ∃ p, r[i]? = some (some p)
theorem cl_getD {r : Row} {i : Nat} : Cl r i ↔ ∃ p, r.getD i none = some p := by
  unfold Cl
  rw [List.getD_eq_getElem?_getD]
  cases r[i]? with
  | none => simp
  | some o => simp
theorem go_cl : ∀ {l : List (Nat × Nat)} {r r' : Row}, (∀ q ∈ l, q.1 < r.length) → matchGo l r = some r' → (∀ q ∈ l, Cl r' q.1) ∧ ∀ i, Cl r i → r'.getD i none = r.getD i none
  | [], r, r', _, h => by
    obtain rfl := Option.some.inj h
    simp
  | (i, p) :: l, r, r', hl, h => by
    have hi := hl (i, p) (List.mem_cons_self ..)
    cases e : r.getD i none with
    | none =>
      rw [matchGo_none e] at h
      obtain ⟨h1, h2⟩ := go_cl (fun q hq => by rw [List.length_set]; exact hl q (List.mem_cons_of_mem _ hq)) h
      have hc : Cl (r.set i (some p)) i := ⟨p, by rw [List.getElem?_set]; simp [hi]⟩
      refine ⟨fun q hq => ?_, fun j hj => ?_⟩
      · rcases List.mem_cons.mp hq with rfl | hq
        · rw [cl_getD, h2 i hc, ← cl_getD]
          exact hc
        · exact h1 q hq
      · have c : j ≠ i := fun z => by
          subst z
          rw [cl_getD, e] at hj
          obtain ⟨_, z⟩ := hj
          cases z
        have hj' : Cl (r.set i (some p)) j := by
          rw [cl_getD, getD_set hi, if_neg c, ← cl_getD]
          exact hj
        rw [h2 j hj', getD_set hi, if_neg c]
    | some q =>
      by_cases c : q = p
      · subst c
        rw [matchGo_same e] at h
        obtain ⟨h1, h2⟩ := go_cl (fun q hq => hl q (List.mem_cons_of_mem _ hq)) h
        refine ⟨fun z hz => ?_, h2⟩
        rcases List.mem_cons.mp hz with rfl | hz
        · have hc : Cl r i := cl_getD.mpr ⟨_, e⟩
          rw [cl_getD, h2 i hc, ← cl_getD]
          exact hc
        · exact h1 z hz
      · rw [matchGo_other e c] at h
        cases h
/-- entries -/
def RowIn (n : Nat) (r : Row) : Prop := ∀ i p, r.getD i none = some p → p < n
theorem set_in {n : Nat} {r : Row} {i p : Nat} (h : RowIn n r) (hi : i < r.length) (hp : p < n) : RowIn n (r.set i (some p)) := by
  intro j q hq
  rw [getD_set hi] at hq
  split at hq
  · rw [← Option.some.inj hq]; exact hp
  · exact h j q hq
theorem go_in {n : Nat} : ∀ {l : List (Nat × Nat)} {r r' : Row}, (∀ q ∈ l, q.1 < r.length ∧ q.2 < n) → RowIn n r → matchGo l r = some r' → RowIn n r'
  | [], r, r', _, hr, h => by
    obtain rfl := Option.some.inj h
    exact hr
  | (i, p) :: l, r, r', hl, hr, h => by
    have hi := hl (i, p) (List.mem_cons_self ..)
    cases e : r.getD i none with
    | none =>
      rw [matchGo_none e] at h
      exact go_in (fun q hq => by rw [List.length_set]; exact hl q (List.mem_cons_of_mem _ hq)) (set_in hr hi.1 hi.2) h
    | some q =>
      by_cases c : q = p
      · subst c
        rw [matchGo_same e] at h
        exact go_in (fun q hq => hl q (List.mem_cons_of_mem _ hq)) hr h
      · rw [matchGo_other e c] at h
        cases h
theorem asg_pos {n : Nat} {r : Row} (hn : 0 < n) (_hr : RowIn n r) : ∃ x, x ∈ asg n r := by
  refine ⟨r.map fun o => o.getD 0, mem_asg.mpr ⟨by rw [List.length_map], fun j hj => ?_⟩⟩
  have e : (r.map fun o => o.getD 0).getD j 0 = (r.getD j none).getD 0 := by
    rw [List.getD_eq_getElem?_getD, List.getElem?_map, List.getElem?_eq_getElem hj, List.getD_eq_getElem?_getD, List.getElem?_eq_getElem hj]
    rfl
  rw [e]
  cases r.getD j none with
  | none => exact hn
  | some p => rfl
end Mi
/-! choices, spread, derived. -/
namespace Mi
open Kh375
structure Rds (n : Nat) (reads : List Fact) : Prop where
  nd : reads.Nodup
  len : ∀ f ∈ reads, f.points.length = pointCounts.getD f.kind 0
  pts : ∀ f ∈ reads, ∀ p ∈ f.points, p < n
def p0 (pat : Fact) : Nat := pat.points.getD 0 0
def p1 (pat : Fact) : Nat := pat.points.getD 1 0
def chs (n : Nat) (reads : List Fact) (pat : Fact) : Nat → Row → List Row
  | 0, _ => []
  | k + 1, r => match firstOpen pat r with
    | none => if fill pat r ∈ reads then [r] else []
    | some v => match r.getD (p0 pat) none, r.getD (p1 pat) none with
      | some a, some b => (reads.filter (startIs pat.kind a b)).filterMap fun rd => matchP pat rd r
      | _, _ => (List.range n).flatMap fun p => chs n reads pat k (r.set v (some p))
def opens (pat : Fact) (r : Row) : Nat := (if r.getD (p0 pat) none = none then 1 else 0) + (if r.getD (p1 pat) none = none then 1 else 0)
theorem open_at {pat : Fact} {r : Row} {v : Nat} (h : firstOpen pat r = some v) : v ∈ pat.points ∧ r.getD v none = none := by
  unfold firstOpen at h
  have := List.find?_some h
  exact ⟨List.mem_of_find?_eq_some h, by simpa using this⟩
theorem open_none {pat : Fact} {r : Row} (h : firstOpen pat r = none) : ∀ i ∈ pat.points, Cl r i := by
  unfold firstOpen at h
  rw [List.find?_eq_none] at h
  intro i hi
  have := h i hi
  rw [cl_getD]
  cases e : r.getD i none with
  | none => rw [e] at this; exact absurd rfl this
  | some p => exact ⟨p, rfl⟩
theorem pat_shape {m : Nat} {pat : Fact} (h : PatOk m pat) : ∃ c rest, pat.points = p0 pat :: p1 pat :: c :: rest := by
  obtain ⟨k, ps⟩ := pat
  have hl := h.least
  match ps, hl with
  | a :: b :: c :: r, _ => exact ⟨c, r, rfl⟩
theorem open_first {m : Nat} {pat : Fact} {r : Row} {v : Nat} (h : PatOk m pat) (hv : firstOpen pat r = some v) (hn : ¬ ((∃ a, r.getD (p0 pat) none = some a) ∧ ∃ b, r.getD (p1 pat) none = some b)) : (v = p0 pat ∨ v = p1 pat) ∧ r.getD v none = none := by
  obtain ⟨c, rest, e⟩ := pat_shape h
  refine ⟨?_, (open_at hv).2⟩
  unfold firstOpen at hv
  rw [e] at hv
  cases e0 : r.getD (p0 pat) none with
  | none =>
    rw [List.find?_cons_of_pos (by rw [e0]; rfl)] at hv
    exact .inl (Option.some.inj hv).symm
  | some a =>
    rw [List.find?_cons_of_neg (by rw [e0]; exact Bool.false_ne_true)] at hv
    cases e1 : r.getD (p1 pat) none with
    | none =>
      rw [List.find?_cons_of_pos (by rw [e1]; rfl)] at hv
      exact .inr (Option.some.inj hv).symm
    | some b => exact absurd ⟨⟨a, e0⟩, b, e1⟩ hn
theorem opens_set {pat : Fact} {r : Row} {v p : Nat} (hl : v < r.length) (hv : v = p0 pat ∨ v = p1 pat) (ho : r.getD v none = none) : opens pat (r.set v (some p)) < opens pat r := by
  unfold opens
  rw [getD_set hl, getD_set hl]
  have sn : (if (some p : Option Nat) = none then 1 else 0) = 0 := if_neg (fun z => by cases z)
  rcases hv with rfl | rfl
  · rw [if_pos rfl, if_pos ho, sn]
    by_cases c : p1 pat = p0 pat
    · rw [if_pos c, sn]; omega
    · rw [if_neg c]; omega
  · rw [if_pos (rfl : p1 pat = p1 pat), if_pos ho, sn]
    by_cases c : p0 pat = p1 pat
    · rw [if_pos c, sn]; omega
    · rw [if_neg c]; omega
/-- one step of chs, by cases -/
theorem chs_cases {n : Nat} {reads : List Fact} {m : Nat} {pat : Fact} {k : Nat} {r : Row} (h : PatOk m pat) (hm : r.length = m) :
    (firstOpen pat r = none ∧ chs n reads pat (k + 1) r = if fill pat r ∈ reads then [r] else []) ∨
    (∃ v a b, firstOpen pat r = some v ∧ r.getD (p0 pat) none = some a ∧ r.getD (p1 pat) none = some b ∧ chs n reads pat (k + 1) r = (reads.filter (startIs pat.kind a b)).filterMap fun rd => matchP pat rd r) ∨
    (∃ v, firstOpen pat r = some v ∧ (v = p0 pat ∨ v = p1 pat) ∧ v < r.length ∧ r.getD v none = none ∧ ¬ ((∃ a, r.getD (p0 pat) none = some a) ∧ ∃ b, r.getD (p1 pat) none = some b) ∧ chs n reads pat (k + 1) r = (List.range n).flatMap fun p => chs n reads pat k (r.set v (some p))) := by
  cases e : firstOpen pat r with
  | none => exact .inl ⟨rfl, by rw [chs, e]⟩
  | some v =>
    have ho := open_at e
    cases e0 : r.getD (p0 pat) none with
    | none =>
      refine .inr (.inr ⟨v, rfl, (open_first h e (fun z => by rw [e0] at z; obtain ⟨⟨_, z⟩, _⟩ := z; cases z)).1, by rw [hm]; exact h.vars v ho.1, ho.2, fun z => (by obtain ⟨⟨_, z⟩, _⟩ := z; cases z), ?_⟩)
      rw [chs, e, e0]
    | some a =>
      cases e1 : r.getD (p1 pat) none with
      | none =>
        refine .inr (.inr ⟨v, rfl, (open_first h e (fun z => by rw [e1] at z; obtain ⟨_, _, z⟩ := z; cases z)).1, by rw [hm]; exact h.vars v ho.1, ho.2, fun z => (by obtain ⟨_, _, z⟩ := z; cases z), ?_⟩)
        rw [chs, e, e0, e1]
      | some b => exact .inr (.inl ⟨v, a, b, rfl, rfl, rfl, by rw [chs, e, e0, e1]⟩)
theorem zip_ok {n m : Nat} {pat rd : Fact} {r : Row} (h : PatOk m pat) (hm : r.length = m) (hp : ∀ p ∈ rd.points, p < n) : ∀ q ∈ pat.points.zip rd.points, q.1 < r.length ∧ q.2 < n := by
  rintro ⟨i, p⟩ hq
  exact ⟨by rw [hm]; exact h.vars i (List.of_mem_zip hq).1, hp p (List.of_mem_zip hq).2⟩
theorem start_kind {k a b : Nat} {f : Fact} (h : startIs k a b f = true) : f.kind = k := by
  unfold startIs at h
  simp only [Bool.and_eq_true, decide_eq_true_eq] at h
  exact h.1
/-- the rows that choices gives: their length, entries, closed variables -/
structure Grown (n : Nat) (pat : Fact) (r r' : Row) : Prop where
  len : r'.length = r.length
  ent : RowIn n r'
  cl : ∀ i ∈ pat.points, Cl r' i
  old : ∀ i, Cl r i → r'.getD i none = r.getD i none
theorem Grown.keep {n : Nat} {pat : Fact} {r r' : Row} (h : Grown n pat r r') {i : Nat} (c : Cl r i) : Cl r' i := by
  rw [cl_getD, h.old i c, ← cl_getD]
  exact c
theorem chs_grown {n : Nat} {reads : List Fact} {m : Nat} {pat : Fact} (h : PatOk m pat) (hr : Rds n reads) : ∀ (k : Nat) {r : Row}, r.length = m → RowIn n r → ∀ r' ∈ chs n reads pat k r, Grown n pat r r'
  | 0, r, _, _, r', hr' => by cases hr'
  | k + 1, r, hm, hi, r', hr' => by
    rcases chs_cases (n := n) (reads := reads) (k := k) h hm with ⟨e, e2⟩ | ⟨v, a, b, e, _, _, e2⟩ | ⟨v, e, hv, hl, ho, _, e2⟩
    · rw [e2] at hr'
      split at hr'
      · rw [List.mem_singleton] at hr'
        subst hr'
        exact ⟨rfl, hi, open_none e, fun _ _ => rfl⟩
      · cases hr'
    · rw [e2, List.mem_filterMap] at hr'
      obtain ⟨rd, hrd, em⟩ := hr'
      rw [List.mem_filter] at hrd
      have z := zip_ok h hm (hr.pts rd hrd.1)
      have g := go_cl (fun q hq => (z q hq).1) em
      refine ⟨matchGo_len em, go_in z hi em, fun i hin => ?_, g.2⟩
      obtain ⟨j, hj⟩ := List.getElem?_of_mem hin
      have hlen : rd.points.length = pat.points.length := by
        rw [hr.len rd hrd.1, h.len, start_kind hrd.2]
      have jl : j < rd.points.length := by rw [hlen]; exact (List.getElem?_eq_some_iff.mp hj).1
      exact g.1 (i, rd.points[j]) (List.mem_of_getElem? (i := j) (by rw [List.getElem?_zip_eq_some]; exact ⟨hj, List.getElem?_eq_getElem jl⟩))
    · rw [e2, List.mem_flatMap] at hr'
      obtain ⟨p, hp, hr'⟩ := hr'
      have g := chs_grown h hr k (by rw [List.length_set]; exact hm) (set_in hi hl (List.mem_range.mp hp)) r' hr'
      refine ⟨by rw [g.len, List.length_set], g.ent, g.cl, fun i hc => ?_⟩
      have c : i ≠ v := fun z => by
        subst z
        rw [cl_getD, ho] at hc
        obtain ⟨_, z⟩ := hc
        cases z
      have hc' : Cl (r.set v (some p)) i := by
        rw [cl_getD, getD_set hl, if_neg c, ← cl_getD]
        exact hc
      rw [g.old i hc', getD_set hl, if_neg c]
/-- a completion's facts -/
theorem sub_fill {n : Nat} {pat : Fact} {r : Row} {x : List Nat} (hl : ∀ i ∈ pat.points, i < r.length) (hc : ∀ i ∈ pat.points, Cl r i) (hx : x ∈ asg n r) : substitute x pat = fill pat r := by
  unfold substitute fill
  congr 1
  refine List.map_congr_left fun i hi => ?_
  obtain ⟨p, hp⟩ := cl_getD.mp (hc i hi)
  have := (mem_asg.mp hx).2 i (hl i hi)
  rw [hp] at this ⊢
  exact this
theorem zip_map {x : List Nat} : ∀ {vs ps : List Nat}, vs.length = ps.length → ((∀ q ∈ vs.zip ps, x.getD q.1 0 = q.2) ↔ vs.map (fun i => x.getD i 0) = ps)
  | [], [], _ => by simp
  | v :: vs, p :: ps, h => by
    rw [List.zip_cons_cons, List.forall_mem_cons, zip_map (by simpa using h), List.map_cons, List.cons.injEq]
theorem sub_is {x : List Nat} {pat rd : Fact} (hk : rd.kind = pat.kind) (hl : pat.points.length = rd.points.length) : (∀ q ∈ pat.points.zip rd.points, x.getD q.1 0 = q.2) ↔ substitute x pat = rd := by
  rw [zip_map hl]
  obtain ⟨k, ps⟩ := rd
  unfold substitute
  constructor
  · intro h
    rw [h]
    have : pat.kind = k := hk.symm
    rw [this]
  · intro h
    injection h
theorem match_mem {n m : Nat} {pat rd : Fact} {r r' : Row} (h : PatOk m pat) (hm : r.length = m) (hk : rd.kind = pat.kind) (hl : pat.points.length = rd.points.length) (hp : ∀ p ∈ rd.points, p < n) (em : matchP pat rd r = some r') (x : List Nat) :
    x ∈ asg n r' ↔ x ∈ asg n r ∧ substitute x pat = rd := by
  rw [go_some (zip_ok h hm hp) em x, sub_is hk hl]
theorem match_none {n m : Nat} {pat rd : Fact} {r : Row} (h : PatOk m pat) (hm : r.length = m) (hk : rd.kind = pat.kind) (hl : pat.points.length = rd.points.length) (hp : ∀ p ∈ rd.points, p < n) (em : matchP pat rd r = none) (x : List Nat) (hx : x ∈ asg n r) :
    substitute x pat ≠ rd := fun z => go_none (zip_ok h hm hp) em x hx ((sub_is hk hl).mpr z)
/-- what the rows that choices gives stand for -/
theorem chs_mem {n : Nat} {reads : List Fact} {m : Nat} {pat : Fact} (h : PatOk m pat) (hr : Rds n reads) : ∀ (k : Nat) {r : Row}, r.length = m → opens pat r < k → ∀ x, x ∈ (chs n reads pat k r).flatMap (asg n) ↔ x ∈ asg n r ∧ substitute x pat ∈ reads
  | 0, r, _, ho, _ => absurd ho (Nat.not_lt_zero _)
  | k + 1, r, hm, hk, x => by
    rcases chs_cases (n := n) (reads := reads) (k := k) h hm with ⟨e, e2⟩ | ⟨v, a, b, e, e0, e1, e2⟩ | ⟨v, e, hv, hl, ho, _, e2⟩
    · rw [e2]
      have s : x ∈ asg n r → substitute x pat = fill pat r := sub_fill (fun i hi => by rw [hm]; exact h.vars i hi) (open_none e)
      by_cases c : fill pat r ∈ reads
      · rw [if_pos c, List.flatMap_singleton]
        exact ⟨fun z => ⟨z, by rw [s z]; exact c⟩, fun z => z.1⟩
      · rw [if_neg c]
        exact ⟨fun z => (by cases z), fun z => absurd (by rw [← s z.1]; exact z.2) c⟩
    · rw [e2]
      simp only [List.mem_flatMap, List.mem_filterMap, List.mem_filter]
      constructor
      · rintro ⟨r', ⟨rd, ⟨hrd, hst⟩, em⟩, hx⟩
        have hkd := start_kind hst
        have hlen : pat.points.length = rd.points.length := by rw [hr.len rd hrd, h.len, hkd]
        have z := (match_mem h hm hkd hlen (hr.pts rd hrd) em x).mp hx
        exact ⟨z.1, by rw [z.2]; exact hrd⟩
      · rintro ⟨hx, hs⟩
        have hkd : (substitute x pat).kind = pat.kind := rfl
        have hlen : pat.points.length = (substitute x pat).points.length := by unfold substitute; rw [List.length_map]
        have hst : startIs pat.kind a b (substitute x pat) = true := by
          obtain ⟨c, rest, ep⟩ := pat_shape h
          have i0 : p0 pat < r.length := by rw [hm]; exact h.vars _ (by rw [ep]; simp)
          have i1 : p1 pat < r.length := by rw [hm]; exact h.vars _ (by rw [ep]; simp)
          have f0 := (mem_asg.mp hx).2 _ i0
          have f1 := (mem_asg.mp hx).2 _ i1
          rw [e0] at f0
          rw [e1] at f1
          unfold startIs
          have q0 : (substitute x pat).points.getD 0 0 = a := by
            unfold substitute
            rw [ep]
            exact f0
          have q1 : (substitute x pat).points.getD 1 0 = b := by
            unfold substitute
            rw [ep]
            exact f1
          rw [q0, q1]
          simp [substitute]
        cases em : matchP pat (substitute x pat) r with
        | none => exact absurd rfl (match_none h hm hkd hlen (hr.pts _ hs) em x hx)
        | some r' => exact ⟨r', ⟨_, ⟨hs, hst⟩, em⟩, (match_mem h hm hkd hlen (hr.pts _ hs) em x).mpr ⟨hx, rfl⟩⟩
    · rw [e2]
      simp only [List.mem_flatMap, List.mem_range]
      have oo : ∀ p, opens pat (r.set v (some p)) < k := fun p => by have := opens_set (p := p) hl hv ho; omega
      constructor
      · rintro ⟨r', ⟨p, hp, hr'⟩, hx⟩
        have z := (chs_mem h hr k (by rw [List.length_set]; exact hm) (oo p) x).mp (List.mem_flatMap.mpr ⟨r', hr', hx⟩)
        exact ⟨((asg_set hl ho hp).mp z.1).1, z.2⟩
      · rintro ⟨hx, hs⟩
        have hp : x.getD v 0 < n := by
          have := (mem_asg.mp hx).2 v hl
          rw [ho] at this
          exact this
        have z := (chs_mem h hr k (by rw [List.length_set]; exact hm) (oo _) x).mpr ⟨(asg_set hl ho hp).mpr ⟨hx, rfl⟩, hs⟩
        obtain ⟨r', hr', hx'⟩ := List.mem_flatMap.mp z
        exact ⟨r', ⟨_, hp, hr'⟩, hx'⟩
theorem nodup_flat {α β : Type} {f : α → List β} {l : List α} (h1 : ∀ a ∈ l, (f a).Nodup) (h2 : l.Pairwise fun a b => ∀ x ∈ f a, ∀ y ∈ f b, x ≠ y) : (l.flatMap f).Nodup := by
  show (l.flatMap f).Pairwise _
  rw [List.pairwise_flatMap]
  exact ⟨h1, h2⟩
theorem chs_nodup {n : Nat} {reads : List Fact} {m : Nat} {pat : Fact} (h : PatOk m pat) (hr : Rds n reads) : ∀ (k : Nat) {r : Row}, r.length = m → opens pat r < k → ((chs n reads pat k r).flatMap (asg n)).Nodup
  | 0, r, _, ho => absurd ho (Nat.not_lt_zero _)
  | k + 1, r, hm, hk => by
    rcases chs_cases (n := n) (reads := reads) (k := k) h hm with ⟨e, e2⟩ | ⟨v, a, b, e, e0, e1, e2⟩ | ⟨v, e, hv, hl, ho, _, e2⟩
    · rw [e2]
      split
      · rw [List.flatMap_singleton]
        exact asg_nodup n r
      · exact List.nodup_nil
    · rw [e2]
      refine nodup_flat (fun r' _ => asg_nodup n r') ?_
      rw [List.pairwise_filterMap]
      refine (hr.nd.filter _).imp_of_mem fun {rd rd'} hd hd' hne r1 e1 r2 e2 x hx y hy exy => ?_
      subst exy
      rw [List.mem_filter] at hd hd'
      have hkd := start_kind hd.2
      have hkd' := start_kind hd'.2
      have z := (match_mem h hm hkd (by rw [hr.len rd hd.1, h.len, hkd]) (hr.pts rd hd.1) e1 x).mp hx
      have z' := (match_mem h hm hkd' (by rw [hr.len rd' hd'.1, h.len, hkd']) (hr.pts rd' hd'.1) e2 x).mp hy
      exact hne (z.2.symm.trans z'.2)
    · rw [e2]
      have oo : ∀ p, opens pat (r.set v (some p)) < k := fun p => by have := opens_set (p := p) hl hv ho; omega
      rw [List.flatMap_assoc]
      refine nodup_flat (fun p _ => chs_nodup h hr k (by rw [List.length_set]; exact hm) (oo p)) ?_
      refine (List.nodup_range (n := n)).imp_of_mem fun {p q} hp hq hne x hx y hy exy => ?_
      subst exy
      have z := (chs_mem h hr k (by rw [List.length_set]; exact hm) (oo p) x).mp hx
      have z' := (chs_mem h hr k (by rw [List.length_set]; exact hm) (oo q) x).mp hy
      exact hne (((asg_set hl ho (List.mem_range.mp hp)).mp z.1).2.symm.trans ((asg_set hl ho (List.mem_range.mp hq)).mp z'.1).2)
/-- rows whose completions are apart are few -/
theorem rows_few {n : Nat} {rows : List Row} {big : List (List Nat)} (hn : 0 < n) (hi : ∀ r ∈ rows, RowIn n r) (nd : (rows.flatMap (asg n)).Nodup) (hs : ∀ x ∈ rows.flatMap (asg n), x ∈ big) : rows.length ≤ big.length := by
  refine Nat.le_trans ?_ (sub_len nd hs)
  clear nd hs
  induction rows with
  | nil => exact Nat.zero_le _
  | cons r rows ih =>
    have := ih fun r hr => hi r (List.mem_cons_of_mem _ hr)
    obtain ⟨x, hx⟩ := asg_pos hn (hi r (List.mem_cons_self ..))
    have := List.length_pos_of_mem hx
    rw [List.flatMap_cons, List.length_append, List.length_cons]
    omega
theorem chs_len {n : Nat} {reads : List Fact} {m : Nat} {pat : Fact} (h : PatOk m pat) (hr : Rds n reads) (hn : 0 < n) (h7 : n ≤ 7) (h6 : m ≤ 6) {k : Nat} {r : Row} (hm : r.length = m) (hi : RowIn n r) (ho : opens pat r < k) : (chs n reads pat k r).length ≤ 7 ^ 6 :=
  Nat.le_trans (rows_few hn (fun r' hr' => (chs_grown h hr k hm hi r' hr').ent) (chs_nodup h hr k hm ho) fun x hx => ((chs_mem h hr k hm ho x).mp hx).1) (asg_le h7 (by omega))
theorem opens_le (pat : Fact) (r : Row) : opens pat r < 3 := by
  unfold opens
  split <;> split <;> omega
end Mi
/-! facts over n points, found facts, spread, derived. -/
namespace Mi
open Kh375
theorem mem_ins (x y : Nat) : ∀ l : List Nat, x ∈ insertSorted y l ↔ x = y ∨ x ∈ l
  | [] => by simp [insertSorted]
  | z :: l => by
    unfold insertSorted
    split
    · simp
    · rw [List.mem_cons, mem_ins x y l, List.mem_cons]
      constructor
      · rintro (h | h | h)
        · exact .inr (.inl h)
        · exact .inl h
        · exact .inr (.inr h)
      · rintro (h | h | h)
        · exact .inr (.inl h)
        · exact .inl h
        · exact .inr (.inr h)
theorem mem_sorted (x : Nat) : ∀ l : List Nat, x ∈ sorted l ↔ x ∈ l
  | [] => by simp [sorted]
  | y :: l => by
    show x ∈ insertSorted y (sorted l) ↔ _
    rw [mem_ins, mem_sorted x l, List.mem_cons]
theorem norm_pts {g f : Fact} (hk : g.kind < 7) (h : normalize g = some f) : ∀ p, p ∈ f.points ↔ p ∈ g.points := by
  intro p
  rcases norm_cases hk h with ⟨a, b, c, _, e, _, rfl⟩ | ⟨a, b, c, d, _, e, _, rfl⟩ | ⟨m, a, b, _, e, _, rfl⟩ | ⟨a, b, c, d, l, _, e, hs, rfl⟩
  · rw [e]; exact mem_sorted p _
  · rw [e]; exact mem_sorted p _
  · rw [e]
    show p ∈ m :: sorted [a, b] ↔ _
    rw [List.mem_cons, mem_sorted, List.mem_cons (l := [a, b])]
  · rw [e]
    show p ∈ l ↔ _
    unfold normalizeSegments at hs
    split at hs
    · rw [← Option.some.inj hs]
      split <;> rw [List.mem_append, mem_sorted, mem_sorted] <;> simp only [List.mem_cons, List.not_mem_nil, or_false] <;> grind
    · cases hs
theorem norm_kind {g f : Fact} (hk : g.kind < 7) (h : normalize g = some f) : f.kind = g.kind := by
  rcases norm_cases hk h with ⟨a, b, c, _, e, _, rfl⟩ | ⟨a, b, c, d, _, e, _, rfl⟩ | ⟨m, a, b, e, _, _, rfl⟩ | ⟨a, b, c, d, l, _, e, hs, rfl⟩
  · rfl
  · rfl
  · exact e.symm
  · rfl
/-- a fact in normal form over n points -/
structure Va (n : Nat) (f : Fact) : Prop where
  nf : NF f
  pts : ∀ p ∈ f.points, p < n
theorem va_norm {n : Nat} {g f : Fact} (hk : g.kind < 7) (hp : ∀ p ∈ g.points, p < n) (h : normalize g = some f) : Va n f := ⟨nf_of hk h, fun p hm => hp p ((norm_pts hk h p).mp hm)⟩
theorem self_read {f : Fact} (h : NF f) : f ∈ readings f := by
  rcases h.cases with ⟨a, b, c, rfl | rfl, _⟩ | ⟨a, b, c, d, rfl, _⟩ | ⟨m, a, b, rfl, _⟩ | ⟨a, b, c, d, rfl | rfl | rfl, _⟩
  · rw [read3 (.inl rfl)]; exact List.mem_cons_self ..
  · rw [read3 (.inr rfl)]; exact List.mem_cons_self ..
  · rw [read5]; simp
  · rw [read4]; exact List.mem_cons_self ..
  · rw [readS (.inl rfl)]; exact List.mem_cons_self ..
  · rw [readS (.inr (.inl rfl))]; exact List.mem_cons_self ..
  · rw [readS (.inr (.inr rfl))]; exact List.mem_cons_self ..
theorem nf_norm {f : Fact} (h : NF f) : normalize f = some f := ((read_mem h).mp (self_read h)).1
def tup : Nat → List (List Nat)
  | 0 => [[]]
  | k + 1 => (List.range 7).flatMap fun x => (tup k).map fun l => x :: l
theorem mem_tup : ∀ {l : List Nat}, (∀ p ∈ l, p < 7) → l ∈ tup l.length
  | [], _ => List.mem_singleton.mpr rfl
  | x :: l, h => by
    rw [List.length_cons, tup, List.mem_flatMap]
    exact ⟨x, List.mem_range.mpr (h x (List.mem_cons_self ..)), List.mem_map.mpr ⟨l, mem_tup (fun p hp => h p (List.mem_cons_of_mem _ hp)), rfl⟩⟩
def allF : List Fact := ((List.range 7).flatMap fun k => (tup (pointCounts.getD k 0)).map fun l => (⟨k, l⟩ : Fact)).filter fun f => decide (normalize f = some f)
set_option maxRecDepth 100000 in
theorem allF_len : allF.length = 840 := by decide +kernel
theorem mem_allF {n : Nat} {f : Fact} (hn : n ≤ 7) (h : Va n f) : f ∈ allF := by
  unfold allF
  rw [List.mem_filter]
  refine ⟨List.mem_flatMap.mpr ⟨f.kind, List.mem_range.mpr h.nf.kind, List.mem_map.mpr ⟨f.points, ?_, rfl⟩⟩, decide_eq_true (nf_norm h.nf)⟩
  rw [← h.nf.len]
  exact mem_tup fun p hp => Nat.lt_of_lt_of_le (h.pts p hp) hn
/-- a list of different facts over n points -/
structure Fl (n : Nat) (fs : List Fact) : Prop where
  nd : fs.Nodup
  va : ∀ f ∈ fs, Va n f
theorem Fl.few {n : Nat} {fs : List Fact} (h : Fl n fs) (hn : n ≤ 7) : fs.length ≤ 840 := by
  rw [← allF_len]
  exact sub_len h.nd fun f hf => mem_allF hn (h.va f hf)
def addF (ks : List Fact) (f : Fact) : List Fact := if f ∈ ks then ks else ks ++ [f]
theorem addF_fl {n : Nat} {ks : List Fact} {f : Fact} (h : Fl n ks) (hf : Va n f) : Fl n (addF ks f) := by
  unfold addF
  split
  · exact h
  · rename_i c
    refine ⟨?_, fun g hg => ?_⟩
    · rw [List.nodup_append]
      exact ⟨h.nd, by simp, fun a ha b hb e => c (by rw [List.mem_singleton] at hb; rw [← hb, ← e]; exact ha)⟩
    · rw [List.mem_append, List.mem_singleton] at hg
      rcases hg with hg | rfl
      · exact h.va g hg
      · exact hf
theorem mem_addF {ks : List Fact} {f g : Fact} : g ∈ addF ks f ↔ g ∈ ks ∨ g = f := by
  unfold addF
  split
  · rename_i c
    constructor
    · exact .inl
    · rintro (h | rfl)
      · exact h
      · exact c
  · rw [List.mem_append, List.mem_singleton]
/-! ### conclude -/
def concl (fs : List Fact) (row : Row) (ks : List Fact) (pat : Fact) : List Fact := match normalize (fill pat row) with
  | none => ks
  | some g => if g ∈ fs then ks else addF ks g
def concls (fs : List Fact) (rl : Rule) (ks : List Fact) (row : Row) : List Fact := rl.conclusions.foldl (concl fs row) ks
theorem fill_pts {n : Nat} {pat : Fact} {row : Row} (hi : RowIn n row) (hc : ∀ i ∈ pat.points, Cl row i) : ∀ p ∈ (fill pat row).points, p < n := by
  intro p hp
  unfold fill at hp
  obtain ⟨i, hin, rfl⟩ := List.mem_map.mp hp
  obtain ⟨q, hq⟩ := cl_getD.mp (hc i hin)
  rw [hq]
  exact hi i q hq
theorem concl_fl {n m : Nat} {fs : List Fact} {row : Row} {ks : List Fact} {pat : Fact} (hp : PatOk m pat) (hi : RowIn n row) (hc : ∀ i ∈ pat.points, Cl row i) (h : Fl n ks) : Fl n (concl fs row ks pat) := by
  unfold concl
  split
  · exact h
  · rename_i g e
    split
    · exact h
    · exact addF_fl h (va_norm (g := fill pat row) hp.kind (fill_pts hi hc) e)
theorem concls_fl_go {n m : Nat} {fs : List Fact} {row : Row} (hi : RowIn n row) : ∀ {pats : List Fact} {ks : List Fact}, (∀ p ∈ pats, PatOk m p) → (∀ p ∈ pats, ∀ i ∈ p.points, Cl row i) → Fl n ks → Fl n (pats.foldl (concl fs row) ks)
  | [], _, _, _, h => h
  | p :: pats, ks, hp, hc, h => concls_fl_go (pats := pats) hi (fun q hq => hp q (List.mem_cons_of_mem _ hq)) (fun q hq => hc q (List.mem_cons_of_mem _ hq)) (concl_fl (hp p (List.mem_cons_self ..)) hi (hc p (List.mem_cons_self ..)) h)
theorem concl_none {fs : List Fact} {row : Row} {ks : List Fact} {pat : Fact} (e : normalize (fill pat row) = none) : concl fs row ks pat = ks := by
  unfold concl
  rw [e]
theorem concl_in {fs : List Fact} {row : Row} {ks : List Fact} {pat g : Fact} (e : normalize (fill pat row) = some g) (h : g ∈ fs) : concl fs row ks pat = ks := by
  unfold concl
  rw [e]
  exact if_pos h
theorem concl_some {fs : List Fact} {row : Row} {ks : List Fact} {pat g : Fact} (e : normalize (fill pat row) = some g) (h : g ∉ fs) : concl fs row ks pat = addF ks g := by
  unfold concl
  rw [e]
  exact if_neg h
/-- all variables of a rule are closed -/
def Full (m : Nat) (row : Row) : Prop := row.length = m ∧ ∀ i, i < m → Cl row i
theorem concls_fl {n : Nat} {fs : List Fact} {rl : Rule} {row : Row} {ks : List Fact} (ok : RuleOk rl) (hi : RowIn n row) (hf : Full rl.variableCount row) (h : Fl n ks) : Fl n (concls fs rl ks row) :=
  concls_fl_go hi ok.conc (fun p hp i hin => hf.2 i ((ok.conc p hp).vars i hin)) h
theorem mem_concl {fs : List Fact} {row : Row} {ks : List Fact} {pat g : Fact} : g ∈ concl fs row ks pat ↔ g ∈ ks ∨ (normalize (fill pat row) = some g ∧ g ∉ fs) := by
  unfold concl
  split
  · rename_i e
    rw [e]
    simp
  · rename_i x e
    rw [e]
    split
    · rename_i c
      constructor
      · exact .inl
      · rintro (h | ⟨h, h2⟩)
        · exact h
        · rw [← Option.some.inj h] at h2
          exact absurd c h2
    · rename_i c
      rw [mem_addF]
      constructor
      · rintro (h | rfl)
        · exact .inl h
        · exact .inr ⟨rfl, c⟩
      · rintro (h | ⟨h, _⟩)
        · exact .inl h
        · exact .inr (Option.some.inj h).symm
theorem mem_concls {fs : List Fact} {row : Row} {g : Fact} : ∀ {pats ks : List Fact}, g ∈ pats.foldl (concl fs row) ks ↔ g ∈ ks ∨ ∃ pat ∈ pats, normalize (fill pat row) = some g ∧ g ∉ fs
  | [], ks => by simp
  | p :: pats, ks => by
    rw [List.foldl_cons, mem_concls (pats := pats), mem_concl]
    constructor
    · rintro ((h | h) | ⟨q, hq, h⟩)
      · exact .inl h
      · exact .inr ⟨p, List.mem_cons_self .., h⟩
      · exact .inr ⟨q, List.mem_cons_of_mem _ hq, h⟩
    · rintro (h | ⟨q, hq, h⟩)
      · exact .inl (.inl h)
      · rcases List.mem_cons.mp hq with rfl | hq
        · exact .inl (.inr h)
        · exact .inr ⟨q, hq, h⟩
/-! ### readings of a list of facts -/
theorem read_pts {n : Nat} {f rd : Fact} (h : Va n f) (hr : rd ∈ readings f) : ∀ p ∈ rd.points, p < n := by
  intro p hp
  exact h.pts p ((norm_pts ((read_mem h.nf).mp hr).2 ((read_mem h.nf).mp hr).1 p).mpr hp)
theorem orders_nd (k : Nat) (h : k < 7) : (ordersOf k).Nodup := by
  have : k = 0 ∨ k = 1 ∨ k = 2 ∨ k = 3 ∨ k = 4 ∨ k = 5 ∨ k = 6 := by omega
  rcases this with rfl | rfl | rfl | rfl | rfl | rfl | rfl <;> decide +kernel
theorem readings_nd {f : Fact} (h : NF f) : (readings f).Nodup := by
  rcases h.cases with ⟨a, b, c, rfl | rfl, _⟩ | ⟨a, b, c, d, rfl, _⟩ | ⟨m, a, b, rfl, _⟩ | ⟨a, b, c, d, rfl | rfl | rfl, _⟩
  · rw [read3 (.inl rfl)]; simp; omega
  · rw [read3 (.inr rfl)]; simp; omega
  · rw [read5]; simp; omega
  · rw [read4]; simp; omega
  · rw [readS (.inl rfl)]; simp; omega
  · rw [readS (.inr (.inl rfl))]; simp; omega
  · rw [readS (.inr (.inr rfl))]; simp; omega
def rdsOf (fs : List Fact) : List Fact := fs.flatMap readings
theorem rds_of {n : Nat} {fs : List Fact} (h : Fl n fs) : Rds n (rdsOf fs) := by
  refine ⟨?_, fun rd hr => ?_, fun rd hr => ?_⟩
  · refine nodup_flat (fun f hf => readings_nd (h.va f hf).nf) ?_
    refine h.nd.imp_of_mem fun {f g} hf hg hne x hx y hy e => ?_
    subst e
    have z := ((read_mem (h.va f hf).nf).mp hx).1
    rw [((read_mem (h.va g hg).nf).mp hy).1] at z
    exact hne (Option.some.inj z).symm
  · obtain ⟨f, hf, hr⟩ := List.mem_flatMap.mp hr
    have z := reading_same (h.va f hf).nf hr
    rw [z.2, z.1]
    exact (h.va f hf).nf.len
  · obtain ⟨f, hf, hr⟩ := List.mem_flatMap.mp hr
    exact read_pts (h.va f hf) hr
theorem mem_rds {n : Nat} {fs : List Fact} (h : ∀ f ∈ fs, Va n f) {g : Fact} (hk : g.kind < 7) : g ∈ rdsOf fs ↔ ∃ f ∈ fs, normalize g = some f := by
  unfold rdsOf
  rw [List.mem_flatMap]
  constructor
  · rintro ⟨f, hf, hr⟩
    exact ⟨f, hf, ((read_mem (h f hf).nf).mp hr).1⟩
  · rintro ⟨f, hf, e⟩
    exact ⟨f, hf, (read_mem (h f hf).nf).mpr ⟨e, hk⟩⟩
theorem readsOf_is (es : List (Fact × Nat)) : readsOf es = rdsOf (es.map (·.1)) := by
  unfold readsOf rdsOf
  rw [List.flatMap_map]
end Mi
set_option Elab.async false
set_option maxRecDepth 100000
set_option maxHeartbeats 4000000
namespace G
open PySem PySem.Spec PyProof.Rows L2
open Kh375 (Fact Rule)
/-- all but d stands -/
def SameX (d : Addr) (H H' : Hp) : Prop := ∀ b o, b ≠ d → H b = some o → H' b = some o
theorem SameX.refl {d : Addr} {H : Hp} : SameX d H H := fun _ _ _ e => e
theorem SameX.trans {d : Addr} {H H1 H2 : Hp} (a : SameX d H H1) (b : SameX d H1 H2) : SameX d H H2 := fun c o n h => b c o n (a c o n h)
theorem _root_.L2.Same.x {d : Addr} {H H' : Hp} (e : L2.Same H H') : SameX d H H' := fun b o _ h => e b o h
theorem SameX.put {d : Addr} {H H' : Hp} {o : HO} (e : SameX d H H') : SameX d H (upd H' d o) := fun b u n h => by
  rw [upd_ne n]
  exact e b u n h
theorem SameX.base {d : Addr} {Hb H H' : Hp} (e : SameX d H H') (s : L2.Same Hb H) (n : Hb d = none) : L2.Same Hb H' := fun b o h => e b o (fun z => by rw [z, n] at h; cases h) (s b o h)
theorem SameX.sqt {K : PySem.W.Frag} {d a : Addr} {H H' : Hp} {xs : List V} {kvs : List (List L2.Key × V)} (e : SameX d H H') (hd : H d = some (.dT kvs)) (h : SqT K H a xs) : SqT K H' a xs := by
  rcases h with (h | ⟨o, h⟩) | h
  · exact .inl (.inl (e _ _ (ne_kind h hd fun z => nomatch z) h))
  · exact .inl (.inr ⟨o, e _ _ (ne_kind h hd fun z => nomatch z) h⟩)
  · exact .inr h
theorem SameX.rule {K : PySem.W.Frag} {d : Addr} {H H' : Hp} {v : V} {rl : Rule} {kvs : List (List L2.Key × V)} (e : SameX d H H') (hd : H d = some (.dT kvs)) (h : RuleAt K H v rl) : RuleAt K H' v rl := by
  have ptl : ∀ {u : V} {fs : List Fact}, PtL K H u fs → PtL K H' u fs := fun {u fs} ⟨a, vs, e1, e2, e3⟩ => ⟨a, vs, e1, e.sqt hd e2, L2.Paired.mapP e3 fun _ _ ⟨b, e4, e5⟩ => ⟨b, e4, e.sqt hd e5⟩⟩
  obtain ⟨a, p, c, ev, h1, h2, h3⟩ := h
  exact ⟨a, p, c, ev, e.sqt hd h1, ptl h2, ptl h3⟩
/-- a dict whose keys are these facts, in this order -/
def DFnd (H : Hp) (d : Addr) (ks : List Fact) : Prop := ∃ kvs, H d = some (.dT kvs) ∧ kvs.map (·.1) = ks.map keyF
theorem DFnd.dT {H : Hp} {d : Addr} {ks : List Fact} (h : DFnd H d ks) : ∃ kvs, H d = some (.dT kvs) := ⟨h.choose, h.choose_spec.1⟩
theorem _root_.L2.Same.dfnd {H H' : Hp} {d : Addr} {ks : List Fact} (e : L2.Same H H') (h : DFnd H d ks) : DFnd H' d ks := by
  obtain ⟨kvs, h1, h2⟩ := h
  exact ⟨kvs, e _ _ h1, h2⟩
theorem any_keys {ks : List Fact} {f : Fact} : ∀ {kvs : List (List L2.Key × V)}, kvs.map (·.1) = ks.map keyF → (kvs.any fun kv => decide (kv.1 = keyF f)) = decide (f ∈ ks) := by
  intro kvs h
  have : (kvs.any fun kv => decide (kv.1 = keyF f)) = ((kvs.map (·.1)).any fun k => decide (k = keyF f)) := by rw [List.any_map]; rfl
  rw [this, h, List.any_map]
  rw [Bool.eq_iff_iff]
  simp only [List.any_eq_true, Function.comp, decide_eq_true_eq]
  constructor
  · rintro ⟨x, hx, e⟩
    rw [← keyF_inj e]
    exact hx
  · exact fun h => ⟨f, h, rfl⟩
theorem put_keys {ks : List Fact} {f : Fact} {kvs : List (List L2.Key × V)} {v : V} (h : kvs.map (·.1) = ks.map keyF) : (putK kvs (keyF f) v).map (·.1) = (Mi.addF ks f).map keyF := by
  unfold putK Mi.addF
  rw [any_keys h]
  by_cases c : f ∈ ks
  · rw [if_pos (decide_eq_true c), if_pos c, ← h, List.map_map]
    refine List.map_congr_left fun kv _ => ?_
    simp only [Function.comp]
    split <;> rfl
  · rw [if_neg (by rw [decide_eq_false c]; exact Bool.false_ne_true), if_neg c, List.map_append, List.map_append, h]
    rfl
theorem ThAt.same {A : Ad} {H0 H H' : Hp} {t : Addr} {n : Nat} {es : List (Fact × Nat)} (h : ThAt A H0 H t n es) (e : L2.Same H H') : ThAt A H0 H' t n es := by
  obtain ⟨dx, lo, dr, dk, ds, L, h⟩ := h
  exact ⟨dx, lo, dr, dk, ds, L, h.same e⟩
theorem lo_full {m : Nat} {row : Mi.Row} (hf : Mi.Full m row) {pat : Fact} (po : Mi.PatOk m pat) : ∀ i ∈ pat.points, ∃ p, row[i]? = some (some p) := fun i hi => hf.2 i (po.vars i hi)
section
variable {P : Program} {w : World} {K : PySem.W.Frag} {mg : Str → Option Value} {base : Heap} {A : Ad}
/-! conclude: slots 0 theory, 1 rule, 2 values, 3 found, 4 pattern, 5 row -/
abbrev s_conclude : Stmt := topS 38
abbrev N_conclude : List Str := ["theory", "rule", "values", "found", "pattern", "row"]
theorem sc_conclude : FnScope N_conclude ["theory", "rule", "values", "found"] (defScope s_conclude) := C8.fnScope_by (by decide +kernel)
def sp_conclude (K : PySem.W.Frag) (A : Ad) : Sp := fun vs H Q _ => ∃ (t : Addr) (v : V) (a d : Addr) (n : Nat) (es : List (Fact × Nat)) (rl : Rule) (row : Mi.Row) (ks : List Fact) (Hz Hb : Hp), vs = [.ref t, v, .ref a, .ref d] ∧
  ThAt A Hz Hb t n es ∧ L2.Same Hb H ∧ Hb d = none ∧ Mi.Fl n (es.map (·.1)) ∧ RuleAt K H v rl ∧ Mi.RuleOk rl ∧ LO H a row ∧ Mi.RowIn n row ∧ Mi.Full rl.variableCount row ∧ n ≤ 7 ∧ DFnd H d ks ∧ Mi.Fl n ks ∧
  ∀ H', SameX d H H' → DFnd H' d (Mi.concls (es.map (·.1)) rl ks row) → Q .non H'
theorem c_conclude (T : Txt K mg A) : C8.Cal P w K mg base 3 "conclude" (sp_conclude K A) [] := by
  obtain ⟨f, fd, F, b⟩ := T.d_conclude.ex
  refine C8.cal0 F b .nil sc_conclude ?_ ?_
  · rintro vs H Q E ⟨t, v, a, d, n, es, rl, row, ks, Hz, Hb, rfl, _⟩
    rfl
  · rintro cdv _ outer s H vs Q E hr ⟨t, _, a, d, n, es, rl, row, ks, Hz, Hb, rfl, hth, sb, nd, hes, ⟨ar, vp, vc, rfl, sr, hp, hc⟩, ok, ha, hin, hfull, hn, hd, hks, q⟩
    obtain ⟨ac, us, rfl, sc, hus⟩ := hc
    obtain ⟨kv0, hd0, _⟩ := id hd
    refine ⟨_, (pss_one (ps_for PassesOwn.never rfl (pi_tup (pe_ix ix_tup (pv 1) pe_int (fun _ _ => rfl))) (pg_name (i := 4) sc_conclude.nd rfl (Or.inl rfl))
        (pss_cons (ps_set (i := 5) sc_conclude.nd rfl (Or.inl rfl) (C8.pe_c (c_filled T) hr (by decide) rfl (pa_cons (pv 4) (pa_cons (pv 2) pa_nil))))
        (pss_one (ps_if (PW.pt (pw_and (pt_not (pt_val (C8.pe_c (c_is_degenerate T) hr (by decide) rfl (pa_cons (pe_ix ix_tup (pv 5) pe_int (fun _ _ => rfl)) (pa_cons (pe_callTy call_list_of rfl T.n_list (by decide +kernel) (pa_cons (pe_slice sl_tup (pv 5) (po_some pe_int) po_none) pa_nil)) pa_nil))))) (pw_and1 (pt_cmp (pc_dnotin (hu_of hr) (pv 5) (pe_fld (pv 0) rfl)) rfl)))) (pss_one (ps_dput (hu_of hr) (pv 3) (C8.pe_c (c_normal T) hr (by decide) rfl (pa_cons (pe_ix ix_tup (pv 5) pe_int (fun _ _ => rfl)) (pa_cons (pe_callTy call_list_of rfl T.n_list (by decide +kernel) (pa_cons (pe_slice sl_tup (pv 5) (po_some pe_int) po_none) pa_nil)) pa_nil))) pe_bl rfl)) pss_nil))))), ?_⟩
    refine ⟨_, rfl, ar, _, _, _, rfl, rfl, sr, rfl, ac, rfl, ⟨us, sc⟩, for_tup (K := K) (a := ac) (xs := us) (fun i σ Hc => ∃ x4 x5, σ = [some (.ref t), some (.ref ar), some (.ref a), some (.ref d), x4, x5] ∧ SameX d H Hc ∧ DFnd Hc d ((rl.conclusions.take i).foldl (Mi.concl (es.map (·.1)) row) ks))
      ⟨none, none, rfl, SameX.refl, hd⟩ (fun i σ Hc _ ⟨_, _, _, z, _⟩ => z.sqt hd0 sc) ?_ ?_⟩
    · rintro i y σ Hc hy ⟨x4, x5, rfl, sx, hdc⟩
      obtain ⟨pat, hpat, ap, rfl, hpt⟩ := paired_at hus hy
      have po := ok.conc pat (List.mem_of_getElem? hpat)
      have fl : Mi.Fl n ((rl.conclusions.take i).foldl (Mi.concl (es.map (·.1)) row) ks) := Mi.concls_fl_go hin (fun p hp => ok.conc p (List.mem_of_mem_take hp)) (fun p hp j hj => hfull.2 j ((ok.conc p (List.mem_of_mem_take hp)).vars j hj)) hks
      have hca := sx _ _ (ne_kind ha hd0 fun z => nomatch z) ha
      refine ⟨_, rfl, _, rfl, _, a, pat, row, rfl, ⟨ap, rfl, sx.sqt hd0 hpt⟩, hca, po.most, lo_full hfull po, fun H1 p m1 np hp1 => ?_⟩
      have pkind : (Mi.fill pat row).kind < 7 := po.kind
      have plen : (Mi.fill pat row).points.length = Kh375.pointCounts.getD (Mi.fill pat row).kind 0 := by
        unfold Mi.fill
        rw [List.length_map]
        exact po.len
      -- not is_degenerate(row[0], list(row[1:]))
      refine ⟨_, rfl, p, _, _, _, rfl, rfl, SqT.of hp1, fV_at0 _, _, rfl, _, rfl, p, _, rfl, SqT.of hp1, cutF_not _, fun c1 nc1 => ?_⟩
      rw [cutF]
      (generalize hgen : upd _ _ _ = H2; have m2 := grow_same hgen nc1; have t2 := grow_at hgen; clear hgen)
      refine ⟨c1, _, rfl, .inr (SqT.of t2), fun l1 nl1 => ?_⟩
      (generalize hgen : upd _ _ _ = H3; have m3 := grow_same hgen nl1; have t3 := grow_at hgen; clear hgen)
      refine ⟨_, l1, (Mi.fill pat row).points, rfl, t3, pkind, plen, fun H4 m4 => ?_⟩
      have hp4 := m4 _ _ (m3 _ _ (m2 _ _ hp1))
      have sx4 : SameX d H H4 := sx.trans (((m1.trans m2).trans m3).trans m4).x
      have th4 := hth.same (sx4.base sb nd)
      have hdc4 := (((m1.trans m2).trans m3).trans m4).dfnd hdc
      have et : (rl.conclusions.take (i + 1)).foldl (Mi.concl (es.map (·.1)) row) ks = Mi.concl (es.map (·.1)) row ((rl.conclusions.take i).foldl (Mi.concl (es.map (·.1)) row) ks) pat := by
        rw [take_snoc hpat, List.foldl_append]
        rfl
      refine ⟨_, rfl, ite2 (fun h => ?_) fun h => ?_⟩
      · obtain ⟨g, eg⟩ : ∃ g, Kh375.normalize (Mi.fill pat row) = some g := by
          cases e : Kh375.normalize (Mi.fill pat row) with
          | none =>
            have e' : Kh375.normalize ⟨(Mi.fill pat row).kind, (Mi.fill pat row).points⟩ = none := e
            rw [e'] at h
            cases h
          | some g => exact ⟨g, rfl⟩
        obtain ⟨dx, lo, dr, dk, ds, L, th⟩ := th4
        obtain ⟨o, ho, hos⟩ := dset_get th.known hp4
        have hrd : Mi.fill pat row ∈ Mi.readsOf es ↔ g ∈ es.map (·.1) := by
          rw [Mi.readsOf_is, Mi.mem_rds hes.va pkind, eg]
          constructor
          · rintro ⟨f, hf, e⟩
            rw [Option.some.inj e]
            exact hf
          · exact fun z => ⟨g, z, rfl⟩
        refine ⟨_, rfl, _, rfl, t, A.ct, dx, _, _, rfl, th.ins, T.k_Theory.cl, T.t_known, rfl, dk, o, rfl, ho, _, rfl, ite2 (fun h2 => ?_) fun h2 => ?_⟩
        · have gn : g ∉ es.map (·.1) := fun z => by
            rw [hos, decide_eq_true (hrd.mpr z)] at h2
            cases h2
          refine ⟨_, rfl, _, rfl, p, _, _, _, rfl, rfl, SqT.of hp4, fV_at0 _, _, rfl, _, rfl, p, _, rfl, SqT.of hp4, cutF_not _, fun c2 nc2 => ?_⟩
          rw [cutF]
          (generalize hgen : upd _ _ _ = H5; have m5 := grow_same hgen nc2; have t5 := grow_at hgen; clear hgen)
          refine ⟨c2, _, rfl, .inr (SqT.of t5), fun l2 nl2 => ?_⟩
          (generalize hgen : upd _ _ _ = H6; have m6 := grow_same hgen nl2; have t6 := grow_at hgen; clear hgen)
          refine ⟨_, l2, (Mi.fill pat row).points, g, rfl, t6, pkind, eg, fun H7 pg m7 npg hpg => ?_⟩
          obtain ⟨kv, k1, k2⟩ := ((m5.trans m6).trans m7).dfnd hdc4
          refine ⟨d, _, rfl, DPut.t k1 (by rw [keyF_kV]; exact hpg) (small_line ?_), ?_⟩
          · have e := congrArg List.length k2
            rw [List.length_map, List.length_map] at e
            have := fl.few hn
            omega
          · refine ⟨_, _, rfl, (sx4.trans ((m5.trans m6).trans m7).x).put, _, upd_same, ?_⟩
            rw [put_keys k2, et, Mi.concl_some eg gn]
        · have gy : g ∈ es.map (·.1) := hrd.mp (by
            rw [hos] at h2
            by_cases c : Mi.fill pat row ∈ Mi.readsOf es
            · exact c
            · rw [decide_eq_false c] at h2; exact absurd rfl h2)
          refine ⟨_, _, rfl, sx4, ?_⟩
          rw [et, Mi.concl_in eg gy]
          exact hdc4
      · have eg : Kh375.normalize (Mi.fill pat row) = none := by
          cases e : Kh375.normalize (Mi.fill pat row) with
          | none => rfl
          | some g =>
            have e' : Kh375.normalize ⟨(Mi.fill pat row).kind, (Mi.fill pat row).points⟩ = some g := e
            rw [e'] at h
            exact absurd rfl h
        refine ⟨_, _, rfl, sx4, ?_⟩
        rw [et, Mi.concl_none eg]
        exact hdc4
    · rintro σ Hc ⟨x4, x5, rfl, sx, hdc⟩
      rw [hus.length, List.take_length] at hdc
      exact q Hc sx hdc
end
end G
set_option Elab.async false
set_option maxRecDepth 100000
set_option maxHeartbeats 4000000
namespace G
open PySem PySem.Spec PyProof.Rows L2
open Kh375 (Fact Rule)
/-- a row: the given one, or a new one -/
def RowN (H : Hp) (a : Addr) (H' : Hp) (v : V) (r : Mi.Row) : Prop := ∃ a', v = .ref a' ∧ (a' = a ∨ H a' = none) ∧ LO H' a' r
theorem fV_at1 (f : Fact) (h : 0 < f.points.length) : atI (fV f) 1 = some (vN (f.points.getD 0 0)) := fV_atS f (p := 0) h
theorem fV_at2 (f : Fact) (h : 1 < f.points.length) : atI (fV f) 2 = some (vN (f.points.getD 1 0)) := fV_atS f (p := 1) h
theorem vO_shut {o : Option Nat} : (!decide (vO o = V.int (-1))) = true ↔ ∃ k, o = some k := by
  cases o with
  | none =>
    refine ⟨fun h => ?_, fun ⟨_, z⟩ => nomatch z⟩
    rw [decide_eq_true (vO_open.mpr rfl |> of_decide_eq_true)] at h
    cases h
  | some k =>
    refine ⟨fun _ => ⟨k, rfl⟩, fun _ => ?_⟩
    rw [decide_eq_false fun z => by have := V.int.inj z; omega]
    rfl
theorem at_Ok {r : Mi.Row} {j k : Nat} (h : j < r.length) (e : r.getD j none = some k) : atI (r.map vO) (j : Int) = some (vN k) := by
  rw [at_O h, e]
  rfl
theorem and_by {t u : TT} {σ : L2.St} {H : Hp} {Q : Bool → Hp → Prop} {b1 b2 : Bool} (h1 : ∀ k : Bool → Hp → Prop, k b1 H → t σ H k) (h2 : ∀ k : Bool → Hp → Prop, k b2 H → u σ H k) (q : Q (b1 && b2) H) : tAnd t u σ H Q := by
  refine h1 _ ?_
  cases b1
  · exact q
  · exact h2 _ q
theorem next_of {D : Ends} {σ : L2.St} {H : Hp} (h : D.nx σ H) : tNext D σ H := h
theorem seq_if {c : TT} {t u v : TS} {D : Ends} {σ : L2.St} {H : Hp} (h : c σ H fun b H1 => if b = true then t { D with nx := v D } σ H1 else u { D with nx := v D } σ H1) : tSeq (tIfS c t u) v D σ H := h
/-- None, or a new row -/
def OpN (bad : List Addr) (H H' : Hp) (v : V) (o : Option Mi.Row) : Prop := match o with
  | none => v = .non
  | some r => ∃ a', v = .ref a' ∧ H a' = none ∧ a' ∉ bad ∧ LO H' a' r
theorem opN_same {bad : List Addr} {H H1 H2 : Hp} {v : V} {o : Option Mi.Row} (e : L2.Same H1 H2) (h : OpN bad H H1 v o) : OpN bad H H2 v o := by
  cases o with
  | none => exact h
  | some r =>
    obtain ⟨a', e1, e2, e3, e4⟩ := h
    exact ⟨a', e1, e2, e3, e _ _ e4⟩
theorem opN_upd {bad : List Addr} {H H1 : Hp} {l : Addr} {x : HO} {v : V} {o : Option Mi.Row} (hb : l ∈ bad) (h : OpN bad H H1 v o) : OpN bad H (upd H1 l x) v o := by
  cases o with
  | none => exact h
  | some r =>
    obtain ⟨a', e1, e2, e3, e4⟩ := h
    exact ⟨a', e1, e2, e3, keep e4 fun z => e3 (by rw [z]; exact hb)⟩
/-- a row that is none of some -/
def RowB (bad : List Addr) (H : Hp) (a : Addr) (H' : Hp) (v : V) (r : Mi.Row) : Prop := ∃ a', v = .ref a' ∧ (a' = a ∨ H a' = none) ∧ a' ∉ bad ∧ LO H' a' r
theorem rowB_same {bad : List Addr} {H H1 H2 : Hp} {a : Addr} {v : V} {o : Mi.Row} (e : L2.Same H1 H2) (h : RowB bad H a H1 v o) : RowB bad H a H2 v o := by
  obtain ⟨a', e1, e2, e3, e4⟩ := h
  exact ⟨a', e1, e2, e3, e _ _ e4⟩
theorem rowB_upd {bad : List Addr} {H H1 : Hp} {a l : Addr} {x : HO} {v : V} {o : Mi.Row} (hb : l ∈ bad) (h : RowB bad H a H1 v o) : RowB bad H a (upd H1 l x) v o := by
  obtain ⟨a', e1, e2, e3, e4⟩ := h
  exact ⟨a', e1, e2, e3, keep e4 fun z => e3 (by rw [z]; exact hb)⟩
theorem rowB_n {bad : List Addr} {H H1 : Hp} {a : Addr} {v : V} {o : Mi.Row} (h : RowB bad H a H1 v o) : RowN H a H1 v o := by
  obtain ⟨a', e1, e2, e3, e4⟩ := h
  exact ⟨a', e1, e2, e4⟩
section
variable {P : Program} {w : World} {K : PySem.W.Frag} {mg : Str → Option Value} {base : Heap} {A : Ad}
/-! choices: slots 0 theory, 1 pattern, 2 values, 3 variable, 4 start, 5 some, 6 found, 7 point, 8 later, 9 reading, 10 row -/
abbrev s_choices : Stmt := topS 39
abbrev N_choices : List Str := ["theory", "pattern", "values", "variable", "start", "some", "found", "point", "later", "reading", "row"]
theorem sc_choices : FnScope N_choices ["theory", "pattern", "values"] (defScope s_choices) := C8.fnScope_by (by decide +kernel)
def sp_choices (K : PySem.W.Frag) (A : Ad) (m : Nat) : Sp := fun vs H Q _ => ∃ (t : Addr) (v : V) (a : Addr) (n : Nat) (es : List (Fact × Nat)) (pat : Fact) (r : Mi.Row) (M : Nat) (Hz : Hp), vs = [.ref t, v, .ref a] ∧
  ThAt A Hz H t n es ∧ Mi.Fl n (es.map (·.1)) ∧ Pt K H v pat ∧ Mi.PatOk M pat ∧ M ≤ 6 ∧ LO H a r ∧ r.length = M ∧ Mi.RowIn n r ∧ 0 < n ∧ n ≤ 7 ∧ Mi.opens pat r < m ∧
  ∀ H' p us, L2.Same H H' → H p = none → H' p = some (.lst us) → Paired (RowN H a H') us (Mi.chs n (Mi.readsOf es) pat m r) → Q (.ref p) H'
theorem c_choices_at (T : Txt K mg A) : ∀ m, C8.Cal P w K mg base (m + 2) "choices" (sp_choices K A m) []
  | 0 => by
    obtain ⟨f, fd, F, b⟩ := T.d_choices.ex
    refine C8.cal0 F b .nil sc_choices ?_ ?_
    · rintro vs H Q E ⟨t, v, a, n, es, pat, r, M, Hz, rfl, _⟩
      rfl
    · rintro cdv _ outer s H vs Q E hr ⟨t, _, a, n, es, pat, r, M, Hz, rfl, _, _, _, _, _, _, _, _, _, _, ho, _⟩
      exact absurd ho (Nat.not_lt_zero _)
  | m + 1 => by
    have ih := c_choices_at T m
    obtain ⟨f, fd, F, b⟩ := T.d_choices.ex
    refine C8.cal0 F b .nil sc_choices ?_ ?_
    · rintro vs H Q E ⟨t, v, a, n, es, pat, r, M, Hz, rfl, _⟩
      rfl
    · rintro cdv _ outer s H vs Q E hr ⟨t, _, a, n, es, pat, r, M, Hz, rfl, hth, hes, ⟨ap, rfl, hp⟩, po, hM, ha, hl, hin, h0, h7, ho, q⟩
      have hrds : Mi.Rds n (Mi.readsOf es) := by rw [Mi.readsOf_is]; exact Mi.rds_of hes
      have hvars : ∀ i ∈ pat.points, i < r.length := fun i hi => by rw [hl]; exact po.vars i hi
      refine ⟨_, (pss_cons (ps_set (i := 3) sc_choices.nd rfl (Or.inl rfl) (C8.pe_c (c_first_open T) hr (by omega) rfl (pa_cons (pv 1) (pa_cons (pv 2) pa_nil))))
        (pss_cons (ps_if (pt_cmpR op_eq (pv 3) (pe_un un_neg pe_int) (nomark _)) (pss_one (ps_ret (pe_ifExp (pt_cmp (pc_din (hu_of hr) (C8.pe_c (c_filled T) hr (by omega) rfl (pa_cons (pv 1) (pa_cons (pv 2) pa_nil))) (pe_fld (pv 0) rfl)) rfl) (pe_lst (pa_cons (pv 2) pa_nil)) (pe_lst pa_nil)))) pss_nil)
        (pss_cons (ps_if (PW.pt (pw_and (pt_cmpR op_ne (pe_ix ix_list (pv 2) (pe_ix ix_tup (pv 1) pe_int (fun _ _ => rfl)) (fun _ _ => rfl)) (pe_un un_neg pe_int) (nomark _)) (pw_and1 (pt_cmpR op_ne (pe_ix ix_list (pv 2) (pe_ix ix_tup (pv 1) pe_int (fun _ _ => rfl)) (fun _ _ => rfl)) (pe_un un_neg pe_int) (nomark _))))) (pss_cons (ps_set (i := 4) sc_choices.nd rfl (Or.inl rfl) (pe_tup (pa_cons (pe_ix ix_tup (pv 1) pe_int (fun _ _ => rfl)) (pa_cons (pe_ix ix_list (pv 2) (pe_ix ix_tup (pv 1) pe_int (fun _ _ => rfl)) (fun _ _ => rfl)) (pa_cons (pe_ix ix_list (pv 2) (pe_ix ix_tup (pv 1) pe_int (fun _ _ => rfl)) (fun _ _ => rfl)) pa_nil)))))
        (pss_cons (ps_setLc (i := 5) (own := [("reading", 9)]) (g := gName 9) (by rfl) sc_choices.nd rfl rfl (sw_true rfl rfl rfl (by decide +kernel)) (pi_list (pe_dget2 (hu_of hr) (pe_fld (pv 0) rfl) (pv 4) (pe_lst pa_nil) ⟨rfl, rfl, rfl, rfl⟩)) (blkOk_by (own := [("reading", 9)]) (N := N_choices) (sc := defScope s_choices) (by decide +kernel)) (fun _ _ _ _ _ => pg_name (i := 9) sc_choices.nd rfl (Or.inl rfl)) (fun _ _ _ _ _ => pts_nil) (fun _ _ _ _ _ => (C8.pe_c (c_matched T) hr (by omega) rfl (pa_cons (pv 1) (pa_cons (pv 9) (pa_cons (pv 2) pa_nil))))))
        (pss_one (ps_ret (pe_lc (own := [("row", 10)]) (g := gName 10) (by rfl) sc_choices.nd (pi_list (pv 5)) (blkOk_by (own := [("row", 10)]) (N := N_choices) (sc := defScope s_choices) (by decide +kernel)) (fun _ _ _ _ _ => pg_name (i := 10) sc_choices.nd rfl (Or.inl rfl)) (fun _ _ _ _ _ => (pts_one (pt_cmpR op_notN (pv 10) pe_non (nomark _)))) (fun _ _ _ _ _ => (pv 10))))))) pss_nil)
        (pss_cons (ps_set (i := 6) sc_choices.nd rfl (Or.inl rfl) (pe_lst pa_nil))
        (pss_cons (ps_for PassesOwn.never rfl (pi_range1 rfl T.n_range (pa_cons (pe_fld (pv 0) rfl) pa_nil)) (pg_name (i := 7) sc_choices.nd rfl (Or.inl rfl))
        (pss_cons (ps_set (i := 8) sc_choices.nd rfl (Or.inl rfl) (pe_callTy call_list_of rfl T.n_list (by decide +kernel) (pa_cons (pv 2) pa_nil)))
        (pss_cons (ps_asg (pv 7) (pg_sub (pv 8) (pv 3) set_list))
        (pss_one (ps_expr (pe_bm PySem.F.plainAttrs_list PySem.F.slot_list_extend PySem.F.type_list_extend mt_extend (pv 6) (pa_cons (C8.pe_c ih hr (Nat.le_refl _) rfl (pa_cons (pv 0) (pa_cons (pv 1) (pa_cons (pv 8) pa_nil)))) pa_nil)))))))
        (pss_one (ps_ret (pv 6)))))))), ?_⟩
      refine ⟨_, rfl, _, rfl, _, a, pat, r, rfl, ⟨ap, rfl, hp⟩, ha, hvars, fun H1 m1 => ?_⟩
      have hp1 := m1.sqt (K := K) hp
      have ha1 : LO H1 a r := m1 _ _ ha
      have hcs := Mi.chs_cases (n := n) (reads := Mi.readsOf es) (k := m) po hl
      obtain ⟨dx, lo, dr, dk, ds, L, th⟩ := hth.same m1
      refine ⟨_, rfl, _, rfl, scal_O _ _, _, rfl, ite2 (fun h => ?_) fun h => ?_⟩
      · have eo := vO_open.mp h
        have e2 : Mi.chs n (Mi.readsOf es) pat (m + 1) r = if Mi.fill pat r ∈ Mi.readsOf es then [r] else [] := by
          rcases hcs with ⟨_, e2⟩ | ⟨v, _, _, e, _⟩ | ⟨v, e, _⟩
          · exact e2
          · rw [e] at eo; cases eo
          · rw [e] at eo; cases eo
        rw [e2] at q
        refine ⟨_, rfl, _, rfl, _, a, pat, r, rfl, ⟨ap, rfl, hp1⟩, ha1, po.most, Mi.open_none eo, fun H2 p2 m2 np2 hp2 => ?_⟩
        obtain ⟨o, hog, hos⟩ := dset_get (m2.dset th.known) hp2
        refine ⟨_, rfl, t, A.ct, dx, _, _, rfl, m2 _ _ th.ins, T.k_Theory.cl, T.t_known, rfl, dk, o, rfl, hog, ?_⟩
        refine ⟨_, rfl, ite2 (fun h2 => ?_) fun h2 => ?_⟩
        · have c : Mi.fill pat r ∈ Mi.readsOf es := by
            rw [hos] at h2
            exact of_decide_eq_true h2
          rw [if_pos c] at q
          refine ⟨_, rfl, (by show 1 ≤ sizeLine; decide), fun p3 np3 => ?_⟩
          exact q _ p3 [.ref a] ((m1.trans m2).trans (L2.Same.new np3)) ((m1.trans m2).free np3) upd_same (.cons ⟨a, rfl, .inl rfl, L2.Same.new np3 _ _ (m2 _ _ ha1)⟩ .nil)
        · have c : Mi.fill pat r ∉ Mi.readsOf es := fun c => h2 (by rw [hos, decide_eq_true c])
          rw [if_neg c] at q
          refine ⟨Nat.zero_le _, fun p3 np3 => ?_⟩
          exact q _ p3 [] ((m1.trans m2).trans (L2.Same.new np3)) ((m1.trans m2).free np3) upd_same .nil
      · have l3 := po.least
        have eo : Mi.firstOpen pat r ≠ none := fun z => h (vO_open.mpr z)
        obtain ⟨cc, rest, epts⟩ := Mi.pat_shape po
        have i0 : Mi.p0 pat < r.length := hvars _ (by rw [epts]; simp)
        have i1 : Mi.p1 pat < r.length := hvars _ (by rw [epts]; simp)
        have a1 : atI (fV pat) 1 = some (vN (Mi.p0 pat)) := fV_at1 pat (by omega)
        have a2 : atI (fV pat) 2 = some (vN (Mi.p1 pat)) := fV_at2 pat (by omega)
        refine next_of ?_
        dsimp only
        refine seq_if ?_
        refine (and_by (b1 := !decide (vO (r.getD (Mi.p0 pat) none) = V.int (-1))) (b2 := !decide (vO (r.getD (Mi.p1 pat) none) = V.int (-1))) ?_ ?_ ?_)
        · exact fun k z => ⟨_, rfl, _, rfl, ap, _, _, _, rfl, rfl, hp1, a1, a, _, _, _, rfl, rfl, SqL.of ha1, at_O i0, _, rfl, scal_O _ _, _, rfl, z⟩
        · exact fun k z => ⟨_, rfl, _, rfl, ap, _, _, _, rfl, rfl, hp1, a2, a, _, _, _, rfl, rfl, SqL.of ha1, at_O i1, _, rfl, scal_O _ _, _, rfl, z⟩
        refine ite2 (fun h3 => ?_) fun h3 => ?_
        · obtain ⟨⟨k0, e0⟩, k1, e1⟩ : (∃ x, r.getD (Mi.p0 pat) none = some x) ∧ ∃ y, r.getD (Mi.p1 pat) none = some y := by
            rw [Bool.and_eq_true] at h3
            exact ⟨vO_shut.mp h3.1, vO_shut.mp h3.2⟩
          have e2 : Mi.chs n (Mi.readsOf es) pat (m + 1) r = (((Mi.readsOf es).filter (Mi.startIs pat.kind k0 k1)).map fun rd => Mi.matchP pat rd r).filterMap id := by
            rw [List.filterMap_map]
            rcases hcs with ⟨e, _⟩ | ⟨v, a', b', e, e0', e1', e2⟩ | ⟨v, e, _, _, _, nb, _⟩
            · exact absurd e eo
            · rw [e0] at e0'
              rw [e1] at e1'
              rw [e2, ← Option.some.inj e0', ← Option.some.inj e1']
              rfl
            · exact absurd ⟨⟨k0, e0⟩, k1, e1⟩ nb
          have hfew := Mi.chs_len po hrds h0 h7 hM hl hin ho
          rw [e2] at q hfew
          -- start
          refine ⟨_, rfl, ap, _, _, _, rfl, rfl, hp1, fV_at0 pat, _, rfl, _, rfl, ap, _, _, _, rfl, rfl, hp1, a1, a, _, _, _, rfl, rfl, SqL.of ha1, at_Ok i0 e0, _, rfl, _, rfl, ap, _, _, _, rfl, rfl, hp1, a2, a, _, _, _, rfl, rfl, SqL.of ha1, at_Ok i1 e1, (by show 3 ≤ sizeLine; decide), fun st nst => ?_⟩
          (generalize hgen : upd _ _ _ = H2; have m2 := grow_same hgen nst; have t2 := grow_at hgen; clear hgen)
          have t2' : H2 st = some (.tup ((keyS pat.kind k0 k1).map kV)) := t2
          obtain ⟨sv, s2, _, s4⟩ := (th.same m2).starts
          refine ⟨_, rfl, t, A.ct, dx, _, _, rfl, m2 _ _ th.ins, T.k_Theory.cl, T.t_starts, rfl, ds, rfl, .inr ⟨sv, .inl s2⟩, _, rfl, Nat.zero_le _, fun e ne => ?_⟩
          (generalize hgen : upd _ _ _ = H3; have m3 := grow_same hgen ne; have t3 := grow_at hgen; clear hgen)
          refine ⟨_, DGet.t (m3 _ _ s2) (m3 _ _ t2'), ?_⟩
          rw [s4]
          have th3 := (th.same m2).same m3
          obtain ⟨l, us, el, hlu, hus⟩ : ∃ l us, ((L pat.kind k0 k1).map V.ref).getD (.ref e) = .ref l ∧ H3 l = some (.lst us) ∧ Paired (Tp H3) us ((Mi.readsOf es).filter (Mi.startIs pat.kind k0 k1)) := by
            cases eL : L pat.kind k0 k1 with
            | none => exact ⟨e, [], rfl, t3, by rw [th3.hasnt _ _ _ eL]; exact .nil⟩
            | some l =>
              obtain ⟨us, h1, h2⟩ := th3.has _ _ _ _ eL
              exact ⟨l, us, rfl, h1, h2⟩
          rw [el]
          have S3 := (m1.trans m2).trans m3
          generalize eR : (Mi.readsOf es).filter (Mi.startIs pat.kind k0 k1) = R at *
          have hR : ∀ rd ∈ R, rd ∈ Mi.readsOf es ∧ rd.kind = pat.kind := fun rd z => by
            rw [← eR, List.mem_filter] at z
            exact ⟨z.1, Mi.start_kind z.2⟩
          have Rlen : R.length ≤ 24 * es.length := by
            rw [← eR]
            exact Nat.le_trans (List.length_filter_le _ _) (Mi.readsOf_len es)
          have eslen : es.length ≤ 840 := by
            have := hes.few h7
            rwa [List.length_map] at this
          refine ⟨l, rfl, ⟨us, SqL.of hlu⟩, fun D nD => ?_⟩
          refine lc_list (K := K) (a := l) (xs := us) (fun i Hx => L2.Same H3 Hx ∧ ∃ ws, Hx D = some (.lst ws) ∧ Paired (OpN [D] H Hx) ws ((R.take i).map fun rd => Mi.matchP pat rd r)) ⟨L2.Same.new nD, [], upd_same, .nil⟩ (fun i Hx _ ⟨z, _⟩ => SqL.of (z _ _ hlu)) ?_ ?_
          · rintro i y Hx hy ⟨s5, ws, hD, hws⟩
            obtain ⟨rd, hrd, ard⟩ := paired_at hus hy
            have hrm := hR rd (List.mem_of_getElem? hrd)
            have wl := hws.length
            rw [List.length_map] at wl
            have iR : i < R.length := (List.getElem?_eq_some_iff.mp hrd).1
            have tl : (R.take i).length ≤ i := List.length_take_le _ _
            refine ⟨rfl, _, rfl, _, rfl, _, rfl, _, y, a, pat, rd, r, rfl, ⟨ap, rfl, (S3.trans s5).sqt hp⟩, s5.tp ard, (S3.trans s5) _ _ ha, by omega, by rw [po.len, hrds.len rd hrm.1, hrm.2], hvars, fun H6 m6 => ⟨fun em => ?_, fun l3 r' n3 t6 em => ?_⟩⟩
            · refine ⟨ws, m6 _ _ hD, small_line (by omega), (s5.trans m6).mut nD, _, upd_same, ?_⟩
              rw [take_snoc hrd, List.map_append]
              refine Paired.snoc (L2.Paired.mapP hws fun _ _ z => opN_upd (by simp) (opN_same m6 z)) ?_
              show OpN _ _ _ _ (Mi.matchP pat rd r)
              rw [em]
              exact rfl
            · have hD6 := m6 _ _ hD
              refine ⟨ws, hD6, small_line (by omega), (s5.trans m6).mut nD, _, upd_same, ?_⟩
              rw [take_snoc hrd, List.map_append]
              refine Paired.snoc (L2.Paired.mapP hws fun _ _ z => opN_upd (by simp) (opN_same m6 z)) ?_
              show OpN _ _ _ _ (Mi.matchP pat rd r)
              rw [em]
              have lD : l3 ≠ D := fun z => by rw [z, hD] at n3; cases n3
              exact ⟨l3, rfl, (S3.trans s5).free n3, by simpa using lD, keep t6 lD⟩
          · rintro Hx ⟨s5, ws, hD, hws⟩
            rw [hus.length, List.take_length] at hws
            refine ⟨_, rfl, D, rfl, ⟨ws, SqL.of hD⟩, fun D2 nD2 => ?_⟩
            refine lc_list (K := K) (a := D) (xs := ws) (fun i Hy => L2.Same Hx Hy ∧ ∃ vs, Hy D2 = some (.lst vs) ∧ Paired (RowB [D2] H a Hy) vs (((R.map fun rd => Mi.matchP pat rd r).take i).filterMap id)) ⟨L2.Same.new nD2, [], upd_same, .nil⟩ (fun i Hy _ ⟨z, _⟩ => SqL.of (z _ _ hD)) ?_ ?_
            · rintro i y Hy hy ⟨s6, vs, hD2, hvs⟩
              obtain ⟨o, ho2, hop⟩ := paired_at hws hy
              refine ⟨rfl, _, rfl, rfl, _, rfl, ?_⟩
              cases o with
              | none =>
                cases hop
                refine iteF ⟨s6, vs, hD2, ?_⟩
                rw [take_snoc ho2, List.filterMap_append]
                simpa using hvs
              | some r' =>
                obtain ⟨a', rfl, fa, na, hla⟩ := hop
                have vl := hvs.length
                have fl2 : (((R.map fun rd => Mi.matchP pat rd r).take i).filterMap id).length ≤ R.length := by
                  refine Nat.le_trans (List.length_filterMap_le _ _) ?_
                  rw [List.length_take, List.length_map]
                  exact Nat.min_le_right _ _
                refine iteT ⟨_, rfl, vs, hD2, small_line (by omega), s6.mut nD2, _, upd_same, ?_⟩
                rw [take_snoc ho2, List.filterMap_append]
                have lD : a' ≠ D2 := ne_of_none hla nD2
                exact Paired.snoc (L2.Paired.mapP hvs fun _ _ z => rowB_upd (by simp) z) ⟨a', rfl, .inr fa, by simpa using lD, keep (s6 _ _ hla) lD⟩
            · rintro Hy ⟨s6, vs, hD2, hvs⟩
              rw [hws.length, List.take_length] at hvs
              exact q Hy D2 vs ((S3.trans s5).trans s6) ((S3.trans s5).free nD2) hD2 (L2.Paired.mapP hvs fun _ _ z => rowB_n z)
        · have nb : ¬ ((∃ x, r.getD (Mi.p0 pat) none = some x) ∧ ∃ y, r.getD (Mi.p1 pat) none = some y) := fun z => h3 (by
            rw [Bool.and_eq_true]
            exact ⟨vO_shut.mpr z.1, vO_shut.mpr z.2⟩)
          obtain ⟨v, ev, hv, lv, ov, e2⟩ : ∃ v, Mi.firstOpen pat r = some v ∧ (v = Mi.p0 pat ∨ v = Mi.p1 pat) ∧ v < r.length ∧ r.getD v none = none ∧ Mi.chs n (Mi.readsOf es) pat (m + 1) r = (List.range n).flatMap fun p => Mi.chs n (Mi.readsOf es) pat m (r.set v (some p)) := by
            rcases hcs with ⟨e, _⟩ | ⟨v, a', b', e, e0', e1', e2⟩ | ⟨v, e, q1, q2, q3, _, e2⟩
            · exact absurd e eo
            · exact absurd ⟨⟨_, e0'⟩, _, e1'⟩ nb
            · exact ⟨v, e, q1, q2, q3, e2⟩
          rw [ev]
          have hfew := Mi.chs_len po hrds h0 h7 hM hl hin ho
          rw [e2] at q hfew
          have hpart : ∀ i, i ≤ n → ((List.range i).flatMap fun p => Mi.chs n (Mi.readsOf es) pat m (r.set v (some p))).length ≤ 7 ^ 6 := fun i hi => by
            have e : List.range n = List.range i ++ (List.range (n - i)).map (i + ·) := by rw [← List.range_add]; congr 1; omega
            rw [e, List.flatMap_append, List.length_append] at hfew
            omega
          refine ⟨Nat.zero_le _, fun fd nfd => ?_⟩
          (generalize hgen : upd _ _ _ = H2; have m2 := grow_same hgen nfd; have t2 := grow_at hgen; clear hgen)
          refine ⟨_, rfl, t, A.ct, dx, _, _, rfl, m2 _ _ th.ins, T.k_Theory.cl, T.t_many, rfl, n, rfl, by omega, by omega, for_range (lo := 0) (n := n) (fun i σ Hc => ∃ x7 x8, σ = [some (.ref t), some (.ref ap), some (.ref a), some (vN v), none, none, some (.ref fd), x7, x8, none, none] ∧ L2.Same H1 Hc ∧ ∃ us, Hc fd = some (.lst us) ∧
            Paired (RowB [fd] H a Hc) us ((List.range i).flatMap fun p => Mi.chs n (Mi.readsOf es) pat m (r.set v (some p))))
            ⟨none, none, rfl, m2, [], t2, .nil⟩ ?_ ?_⟩
          · rintro i σ Hc hi ⟨x7, x8, rfl, sm, us, hfd, hus⟩
            have S := m1.trans sm
            refine ⟨_, rfl, a, _, rfl, .inl (SqL.of (S _ _ ha)), fun l nl => ?_⟩
            (generalize hgen : upd _ _ _ = H3; have m3 := grow_same hgen nl; have t3 := grow_at hgen; clear hgen)
            refine ⟨_, rfl, _, rfl, _, rfl, l, _, _, v, rfl, rfl, t3, by rw [List.length_map]; exact ix_in lv, ?_⟩
            have S4 : L2.Same Hc (upd H3 l (.lst ((r.map vO).set v (.int (0 + (i : Int)))))) := m3.mut nl
            have l4 : LO (upd H3 l (.lst ((r.map vO).set v (.int (0 + (i : Int)))))) l (r.set v (some i)) := by
              show upd _ _ _ _ = _
              rw [upd_same, List.map_set, Int.zero_add]
              rfl
            generalize upd H3 l (.lst ((r.map vO).set v (.int (0 + (i : Int))))) = H4 at *
            have oo := Mi.opens_set (p := i) lv hv ov
            have fdl : fd ≠ l := ne_of_none hfd nl
            refine ⟨_, rfl, .inl ⟨rfl, _, SqL.of (S4 _ _ hfd)⟩, _, rfl, _, rfl, _, rfl, t, _, l, n, es, pat, r.set v (some i), M, Hz, rfl, hth.same (S.trans S4), hes, ⟨ap, rfl, (S.trans S4).sqt hp⟩, po, hM, l4, by rw [List.length_set]; exact hl, Mi.set_in hin lv hi, h0, h7, by omega, fun H5 p us2 m5 np hp5 hus2 => ?_⟩
            have hfd5 := m5 _ _ (S4 _ _ hfd)
            have hb := hpart (i + 1) hi
            rw [List.range_succ, List.flatMap_append, List.flatMap_singleton, List.length_append, ← hus.length, ← hus2.length] at hb
            refine ⟨fd, p, us, us2, rfl, rfl, hfd5, hp5, small_lineE (by omega), ?_⟩
            have e7 : V.int (0 + (i : Int)) = vN i := by rw [Int.zero_add]
            refine ⟨_, _, rfl, ((sm.trans S4).trans m5).mut (m1.free nfd |> fun _ => nfd), us ++ us2, upd_same, ?_⟩
            rw [List.range_succ, List.flatMap_append, List.flatMap_singleton]
            refine paired_app (L2.Paired.mapP hus fun _ _ z => rowB_upd (by simp) (rowB_same (S4.trans m5) z)) (L2.Paired.mapP hus2 fun _ _ z => ?_)
            obtain ⟨a', rfl, fa, hla⟩ := z
            have na : a' ≠ fd := by
              rcases fa with rfl | fa
              · exact fdl.symm
              · exact fun z => by rw [z, S4 _ _ hfd] at fa; cases fa
            have fH : H a' = none := by
              rcases fa with rfl | fa
              · exact S.free nl
              · exact (S.trans S4).free fa
            exact ⟨a', rfl, .inr fH, by simpa using na, keep hla na⟩
          · rintro σ Hc ⟨x7, x8, rfl, sm, us, hfd, hus⟩
            exact ⟨_, rfl, q Hc fd us (m1.trans sm) (m1.free nfd) hfd (L2.Paired.mapP hus fun _ _ z => rowB_n z)⟩
end
end G
/-! spread and derived. -/
namespace Mi
open Kh375
/-- rows of a rule whose completions are apart -/
structure Rws (n m : Nat) (rows : List Row) : Prop where
  len : ∀ r ∈ rows, r.length = m
  ent : ∀ r ∈ rows, RowIn n r
  nd : (rows.flatMap (asg n)).Nodup
theorem asg_none {n : Nat} {r : Row} {x : List Nat} (hn : RowIn n r) (hx : x ∈ asg n r) : x ∈ asg n (List.replicate r.length none) := by
  rw [mem_asg] at hx ⊢
  rw [List.length_replicate]
  refine ⟨hx.1, fun j hj => ?_⟩
  have e : (List.replicate r.length (none : Option Nat)).getD j none = none := by
    rw [List.getD_eq_getElem?_getD, List.getElem?_replicate]
    split <;> rfl
  rw [e]
  have h := hx.2 j hj
  cases er : r.getD j none with
  | none => rw [er] at h; exact h
  | some p =>
    rw [er] at h
    have := hn j p er
    show x.getD j 0 < n
    rw [show x.getD j 0 = p from h]
    exact this
theorem Rws.few {n m : Nat} {rows : List Row} (h : Rws n m rows) (h0 : 0 < n) (h7 : n ≤ 7) (h6 : m ≤ 6) : rows.length ≤ 7 ^ 6 := by
  refine Nat.le_trans (rows_few (big := asg n (List.replicate m none)) h0 h.ent h.nd fun x hx => ?_) (asg_le h7 (by rw [List.length_replicate]; exact h6))
  obtain ⟨r, hr, hx⟩ := List.mem_flatMap.mp hx
  have := asg_none (h.ent r hr) hx
  rwa [h.len r hr] at this
theorem Rws.one {n : Nat} {r : Row} (h : RowIn n r) : Rws n r.length [r] := ⟨fun q hq => by rw [List.mem_singleton.mp hq], fun q hq => by rw [List.mem_singleton.mp hq]; exact h, by rw [List.flatMap_singleton]; exact asg_nodup n r⟩
theorem Rws.take {n m : Nat} {rows : List Row} (h : Rws n m rows) (j : Nat) : Rws n m (rows.take j) := by
  refine ⟨fun r hr => h.len r (List.mem_of_mem_take hr), fun r hr => h.ent r (List.mem_of_mem_take hr), ?_⟩
  have e : rows.flatMap (asg n) = (rows.take j).flatMap (asg n) ++ (rows.drop j).flatMap (asg n) := by rw [← List.flatMap_append, List.take_append_drop]
  have z := h.nd
  rw [e, List.nodup_append] at z
  exact z.1
theorem Rws.step {n m : Nat} {rows : List Row} {reads : List Fact} {pat : Fact} (h : Rws n m rows) (po : PatOk m pat) (hr : Rds n reads) : Rws n m (rows.flatMap (chs n reads pat 3)) := by
  refine ⟨fun r hm => ?_, fun r hm => ?_, ?_⟩
  · obtain ⟨r0, h0, hm⟩ := List.mem_flatMap.mp hm
    rw [(chs_grown po hr 3 (h.len r0 h0) (h.ent r0 h0) r hm).len, h.len r0 h0]
  · obtain ⟨r0, h0, hm⟩ := List.mem_flatMap.mp hm
    exact (chs_grown po hr 3 (h.len r0 h0) (h.ent r0 h0) r hm).ent
  · rw [List.flatMap_assoc]
    refine nodup_flat (fun r hm => chs_nodup po hr 3 (h.len r hm) (opens_le pat r)) ?_
    have z := h.nd
    have z2 : (rows.flatMap (asg n)).Pairwise (fun a b => a ≠ b) := z
    rw [List.pairwise_flatMap] at z2
    refine z2.2.imp_of_mem fun {a b} ha hb hab x hx y hy => ?_
    exact hab x ((chs_mem po hr 3 (h.len a ha) (opens_le pat a) x).mp hx).1 y ((chs_mem po hr 3 (h.len b hb) (opens_le pat b) y).mp hy).1
theorem step_mem {n m : Nat} {rows : List Row} {reads : List Fact} {pat : Fact} (h : Rws n m rows) (po : PatOk m pat) (hr : Rds n reads) (x : List Nat) : x ∈ (rows.flatMap (chs n reads pat 3)).flatMap (asg n) ↔ x ∈ rows.flatMap (asg n) ∧ substitute x pat ∈ reads := by
  rw [List.flatMap_assoc]
  simp only [List.mem_flatMap (b := x)]
  constructor
  · rintro ⟨r, hm, hx⟩
    have := (chs_mem po hr 3 (h.len r hm) (opens_le pat r) x).mp (by rw [List.mem_flatMap]; exact hx)
    exact ⟨⟨r, hm, this.1⟩, this.2⟩
  · rintro ⟨⟨r, hm, hx⟩, hs⟩
    have := (chs_mem po hr 3 (h.len r hm) (opens_le pat r) x).mpr ⟨hx, hs⟩
    exact ⟨r, hm, List.mem_flatMap.mp this⟩
def sprStep (n : Nat) (reads : List Fact) (skip : Nat) (rows : List Row) (q : Fact × Nat) : List Row := if q.2 = skip then rows else rows.flatMap (chs n reads q.1 3)
def sprRows (n : Nat) (reads : List Fact) (rl : Rule) (skip : Nat) (vals : Row) (i : Nat) : List Row := (rl.premises.zipIdx.take i).foldl (sprStep n reads skip) [vals]
theorem zip_take {rl : Rule} {i : Nat} {pat : Fact} (h : rl.premises[i]? = some pat) : rl.premises.zipIdx[i]? = some (pat, i) := by
  rw [List.getElem?_zipIdx, h]
  simp
theorem sprRows_succ {n : Nat} {reads : List Fact} {rl : Rule} {skip : Nat} {vals : Row} {i : Nat} {pat : Fact} (h : rl.premises[i]? = some pat) :
    sprRows n reads rl skip vals (i + 1) = if i = skip then sprRows n reads rl skip vals i else (sprRows n reads rl skip vals i).flatMap (chs n reads pat 3) := by
  have hz := zip_take h
  obtain ⟨hl, e⟩ := List.getElem?_eq_some_iff.mp hz
  unfold sprRows
  rw [← List.take_append_getElem hl, e, List.foldl_append]
  rfl
theorem spr_rws {n : Nat} {reads : List Fact} {rl : Rule} {skip : Nat} {vals : Row} (ok : RuleOk rl) (hr : Rds n reads) (hl : vals.length = rl.variableCount) (hi : RowIn n vals) : ∀ i, i ≤ rl.premises.length → Rws n rl.variableCount (sprRows n reads rl skip vals i)
  | 0, _ => by rw [← hl]; exact Rws.one hi
  | i + 1, h => by
    have ih := spr_rws (skip := skip) ok hr hl hi i (by omega)
    have hp : rl.premises[i]? = some rl.premises[i] := List.getElem?_eq_getElem (by omega)
    rw [sprRows_succ hp]
    split
    · exact ih
    · exact ih.step (ok.prem _ (List.getElem_mem _)) hr
/-- the rows' completions: the premises before i, but the skipped one, are read -/
theorem spr_mem {n : Nat} {reads : List Fact} {rl : Rule} {skip : Nat} {vals : Row} (ok : RuleOk rl) (hr : Rds n reads) (hl : vals.length = rl.variableCount) (hi : RowIn n vals) (x : List Nat) : ∀ i, i ≤ rl.premises.length → (x ∈ (sprRows n reads rl skip vals i).flatMap (asg n) ↔ x ∈ asg n vals ∧ ∀ j pat, j < i → j ≠ skip → rl.premises[j]? = some pat → substitute x pat ∈ reads)
  | 0, _ => by
    show x ∈ [vals].flatMap (asg n) ↔ _
    rw [List.flatMap_singleton]
    exact ⟨fun h => ⟨h, fun j _ hj => absurd hj (Nat.not_lt_zero _)⟩, fun h => h.1⟩
  | i + 1, h => by
    have ih := spr_mem (skip := skip) ok hr hl hi x i (by omega)
    have hp : rl.premises[i]? = some rl.premises[i] := List.getElem?_eq_getElem (by omega)
    rw [sprRows_succ hp]
    split
    · rename_i c
      rw [ih]
      refine and_congr_right fun _ => ⟨fun z j pat hj hs e => ?_, fun z j pat hj => z j pat (by omega)⟩
      exact z j pat (by omega) hs e
    · rename_i c
      rw [step_mem (spr_rws ok hr hl hi i (by omega)) (ok.prem _ (List.getElem_mem _)) hr, ih]
      constructor
      · rintro ⟨⟨h1, h2⟩, h3⟩
        refine ⟨h1, fun j pat hj hs e => ?_⟩
        by_cases cj : j = i
        · subst cj
          rw [hp] at e
          rw [← Option.some.inj e]
          exact h3
        · exact h2 j pat (by omega) hs e
      · rintro ⟨h1, h2⟩
        exact ⟨⟨h1, fun j pat hj => h2 j pat (by omega)⟩, h2 i _ (by omega) c hp⟩
/-- closed variables -/
theorem spr_cl {n : Nat} {reads : List Fact} {rl : Rule} {skip : Nat} {vals : Row} (ok : RuleOk rl) (hr : Rds n reads) (hl : vals.length = rl.variableCount) (hi : RowIn n vals) : ∀ i, i ≤ rl.premises.length → ∀ r ∈ sprRows n reads rl skip vals i, (∀ v, Cl vals v → Cl r v) ∧ ∀ j pat, j < i → j ≠ skip → rl.premises[j]? = some pat → ∀ v ∈ pat.points, Cl r v
  | 0, _, r, hm => by
    rw [show r = vals from List.mem_singleton.mp hm]
    exact ⟨fun _ h => h, fun j _ hj => absurd hj (Nat.not_lt_zero _)⟩
  | i + 1, h, r, hm => by
    have hp : rl.premises[i]? = some rl.premises[i] := List.getElem?_eq_getElem (by omega)
    rw [sprRows_succ hp] at hm
    split at hm
    · rename_i c
      obtain ⟨h1, h2⟩ := spr_cl ok hr hl hi i (by omega) r hm
      exact ⟨h1, fun j pat hj hs e => h2 j pat (by omega) hs e⟩
    · rename_i c
      obtain ⟨r0, h0, hm⟩ := List.mem_flatMap.mp hm
      obtain ⟨h1, h2⟩ := spr_cl ok hr hl hi i (by omega) r0 h0
      have w := spr_rws (skip := skip) ok hr hl hi i (by omega)
      have g := chs_grown (ok.prem _ (List.getElem_mem _)) hr 3 (w.len r0 h0) (w.ent r0 h0) r hm
      refine ⟨fun v hv => g.keep (h1 v hv), fun j pat hj hs e v hv => ?_⟩
      by_cases cj : j = i
      · subst cj
        rw [hp] at e
        rw [← Option.some.inj e] at hv
        exact g.cl v hv
      · exact g.keep (h2 j pat (by omega) hs e v hv)
theorem spr_full {n : Nat} {reads : List Fact} {rl : Rule} {skip : Nat} {vals : Row} (ok : RuleOk rl) (hr : Rds n reads) (hl : vals.length = rl.variableCount) (hi : RowIn n vals) (hc : ∀ pat, rl.premises[skip]? = some pat → ∀ v ∈ pat.points, Cl vals v) :
    ∀ r ∈ sprRows n reads rl skip vals rl.premises.length, Full rl.variableCount r := fun r hm => by
  refine ⟨(spr_rws ok hr hl hi _ (Nat.le_refl _)).len r hm, fun v hv => ?_⟩
  obtain ⟨h1, h2⟩ := spr_cl ok hr hl hi _ (Nat.le_refl _) r hm
  obtain ⟨f, hf, hin⟩ := ok.all v hv
  obtain ⟨j, hj⟩ := List.getElem?_of_mem hf
  by_cases c : j = skip
  · subst c
    exact h1 v (hc f hj v hin)
  · exact h2 j f (List.getElem?_eq_some_iff.mp hj).1 c hj v hin
def spr (n : Nat) (reads fs : List Fact) (rl : Rule) (skip : Nat) (vals : Row) (ks : List Fact) : List Fact := (sprRows n reads rl skip vals rl.premises.length).foldl (concls fs rl) ks
theorem concls_fold_fl {n : Nat} {fs : List Fact} {rl : Rule} (ok : RuleOk rl) : ∀ {rows : List Row} {ks : List Fact}, (∀ r ∈ rows, RowIn n r ∧ Full rl.variableCount r) → Fl n ks → Fl n (rows.foldl (concls fs rl) ks)
  | [], _, _, h => h
  | r :: rows, ks, hr, h => by
    have := hr r (List.mem_cons_self ..)
    exact concls_fold_fl (rows := rows) ok (fun q hq => hr q (List.mem_cons_of_mem _ hq)) (concls_fl ok this.1 this.2 h)
theorem spr_fl {n : Nat} {reads fs : List Fact} {rl : Rule} {skip : Nat} {vals : Row} {ks : List Fact} (ok : RuleOk rl) (hr : Rds n reads) (hl : vals.length = rl.variableCount) (hi : RowIn n vals) (hc : ∀ pat, rl.premises[skip]? = some pat → ∀ v ∈ pat.points, Cl vals v) (h : Fl n ks) :
    Fl n (spr n reads fs rl skip vals ks) := concls_fold_fl ok (fun r hm => ⟨(spr_rws ok hr hl hi _ (Nat.le_refl _)).ent r hm, spr_full ok hr hl hi hc r hm⟩) h
/-! ### derived -/
theorem match_grown {n m : Nat} {pat rd : Fact} {r r' : Row} (h : PatOk m pat) (hm : r.length = m) (hi : RowIn n r) (hl : pat.points.length = rd.points.length) (hp : ∀ p ∈ rd.points, p < n) (em : matchP pat rd r = some r') : Grown n pat r r' := by
  have z := zip_ok h hm hp
  have g := go_cl (fun q hq => (z q hq).1) em
  refine ⟨matchGo_len em, go_in z hi em, fun i hin => ?_, g.2⟩
  obtain ⟨j, hj⟩ := List.getElem?_of_mem hin
  have jl : j < rd.points.length := by rw [← hl]; exact (List.getElem?_eq_some_iff.mp hj).1
  exact g.1 (i, rd.points[j]) (List.mem_of_getElem? (i := j) (by rw [List.getElem?_zip_eq_some]; exact ⟨hj, List.getElem?_eq_getElem jl⟩))
theorem none_in (n m : Nat) : RowIn n (List.replicate m none) := by
  intro i p h
  rw [List.getD_eq_getElem?_getD, List.getElem?_replicate] at h
  split at h <;> cases h

def derAt (n : Nat) (reads fs : List Fact) (rl : Rule) (rd : Fact) (ks : List Fact) (q : Fact × Nat) : List Fact := if q.1.kind = rd.kind then match matchP q.1 rd (List.replicate rl.variableCount none) with
  | none => ks
  | some vals => spr n reads fs rl q.2 vals ks
else ks
def derRule (n : Nat) (reads fs : List Fact) (rd : Fact) (ks : List Fact) (rl : Rule) : List Fact := rl.premises.zipIdx.foldl (derAt n reads fs rl rd) ks
def derRead (n : Nat) (reads fs : List Fact) (ks : List Fact) (rd : Fact) : List Fact := rules.foldl (derRule n reads fs rd) ks
def derFact (n : Nat) (reads fs : List Fact) (ks : List Fact) (f : Fact) : List Fact := (readings f).foldl (derRead n reads fs) ks
def der (n : Nat) (reads fs news : List Fact) : List Fact := news.foldl (derFact n reads fs) []
end Mi
set_option Elab.async false
set_option maxRecDepth 100000
set_option maxHeartbeats 4000000
namespace G
open PySem PySem.Spec PyProof.Rows L2
open Kh375 (Fact Rule)
/-- a row at an address that is none of some -/
def RowO (bad : List Addr) (H : Hp) (v : V) (r : Mi.Row) : Prop := ∃ a, v = .ref a ∧ a ∉ bad ∧ LO H a r
theorem rowO_same {bad : List Addr} {H H' : Hp} {v : V} {r : Mi.Row} (e : L2.Same H H') (h : RowO bad H v r) : RowO bad H' v r := by
  obtain ⟨a, e1, e2, e3⟩ := h
  exact ⟨a, e1, e2, e _ _ e3⟩
theorem rowO_upd {bad : List Addr} {H : Hp} {l : Addr} {x : HO} {v : V} {r : Mi.Row} (hb : l ∈ bad) (h : RowO bad H v r) : RowO bad (upd H l x) v r := by
  obtain ⟨a, e1, e2, e3⟩ := h
  exact ⟨a, e1, e2, keep e3 fun z => e2 (by rw [z]; exact hb)⟩
theorem rowO_less {bad : List Addr} {H : Hp} {v : V} {r : Mi.Row} (h : RowO bad H v r) : RowO [] H v r := by
  obtain ⟨a, e1, e2, e3⟩ := h
  exact ⟨a, e1, by simp, e3⟩
theorem dec_ne {a b : Nat} : (!decide (vN a = vN b)) = true ↔ a ≠ b := by
  by_cases c : a = b
  · subst c
    simp
  · have : ¬ vN a = vN b := fun z => c (by have := V.int.inj z; omega)
    simp [c, this]
section
variable {P : Program} {w : World} {K : PySem.W.Frag} {mg : Str → Option Value} {base : Heap} {A : Ad}
theorem c_choices (T : Txt K mg A) : C8.Cal P w K mg base 5 "choices" (sp_choices K A 3) [] := c_choices_at T 3
/-! spread: slots 0 theory, 1 rule, 2 skipped, 3 values, 4 found, 5 rows, 6 at, 7 pattern, 8 later, 9 row -/
abbrev s_spread : Stmt := topS 40
abbrev N_spread : List Str := ["theory", "rule", "skipped", "values", "found", "rows", "at", "pattern", "later", "row"]
theorem sc_spread : FnScope N_spread ["theory", "rule", "skipped", "values", "found"] (defScope s_spread) := C8.fnScope_by (by decide +kernel)
def sp_spread (K : PySem.W.Frag) (A : Ad) : Sp := fun vs H Q _ => ∃ (t : Addr) (v : V) (a d : Addr) (n skip : Nat) (es : List (Fact × Nat)) (rl : Rule) (vals : Mi.Row) (ks : List Fact) (Hz Hb : Hp), vs = [.ref t, v, vN skip, .ref a, .ref d] ∧
  ThAt A Hz Hb t n es ∧ L2.Same Hb H ∧ Hb d = none ∧ Mi.Fl n (es.map (·.1)) ∧ RuleAt K H v rl ∧ Mi.RuleOk rl ∧ LO H a vals ∧ vals.length = rl.variableCount ∧ Mi.RowIn n vals ∧ (∀ pat, rl.premises[skip]? = some pat → ∀ i ∈ pat.points, Mi.Cl vals i) ∧
  0 < n ∧ n ≤ 7 ∧ DFnd H d ks ∧ Mi.Fl n ks ∧
  ∀ H', SameX d H H' → DFnd H' d (Mi.spr n (Mi.readsOf es) (es.map (·.1)) rl skip vals ks) → Q .non H'
theorem c_spread (T : Txt K mg A) : C8.Cal P w K mg base 6 "spread" (sp_spread K A) [] := by
  obtain ⟨f, fd, F, b⟩ := T.d_spread.ex
  refine C8.cal0 F b .nil sc_spread ?_ ?_
  · rintro vs H Q E ⟨t, v, a, d, n, skip, es, rl, vals, ks, Hz, Hb, rfl, _⟩
    rfl
  · rintro cdv _ outer s H vs Q E hr ⟨t, _, a, d, n, skip, es, rl, vals, ks, Hz, Hb, rfl, hth, sb, nd, hes, hru, ok, ha, hl, hin, hcl, h0, h7, hd, hks, q⟩
    obtain ⟨ar, vp, vc, rfl, sr, hp, hc⟩ := id hru
    obtain ⟨ap, us, rfl, sp, hus⟩ := hp
    obtain ⟨kv0, hd0, _⟩ := id hd
    have hrds : Mi.Rds n (Mi.readsOf es) := by rw [Mi.readsOf_is]; exact Mi.rds_of hes
    have hfew : ∀ {rows}, Mi.Rws n rl.variableCount rows → rows.length ≤ 117649 := fun h => h.few h0 h7 ok.few
    refine ⟨_, (pss_cons (ps_set (i := 5) sc_spread.nd rfl (Or.inl rfl) (pe_lst (pa_cons (pv 3) pa_nil)))
        (pss_cons (ps_for PassesOwn.never rfl (pi_enumT rfl T.n_enumerate (pa_cons (pe_ix ix_tup (pv 1) pe_int (fun _ _ => rfl)) pa_nil)) (pg_tup rfl (pgs_cons (pg_name (i := 6) sc_spread.nd rfl (Or.inl rfl)) (pgs_cons (pg_name (i := 7) sc_spread.nd rfl (Or.inl rfl)) pgs_nil)))
        (pss_one (ps_if (pt_cmpR op_ne (pv 6) (pv 2) (nomark _)) (pss_cons (ps_set (i := 8) sc_spread.nd rfl (Or.inl rfl) (pe_lst pa_nil))
        (pss_cons (ps_for PassesOwn.never rfl (pi_list (pv 5)) (pg_name (i := 9) sc_spread.nd rfl (Or.inl rfl))
        (pss_one (ps_expr (pe_bm PySem.F.plainAttrs_list PySem.F.slot_list_extend PySem.F.type_list_extend mt_extend (pv 8) (pa_cons (C8.pe_c (c_choices T) hr (by decide) rfl (pa_cons (pv 0) (pa_cons (pv 7) (pa_cons (pv 9) pa_nil)))) pa_nil)))))
        (pss_one (ps_set (i := 5) sc_spread.nd rfl (Or.inl rfl) (pv 8))))) pss_nil)))
        (pss_one (ps_for PassesOwn.never rfl (pi_list (pv 5)) (pg_name (i := 9) sc_spread.nd rfl (Or.inl rfl))
        (pss_one (ps_expr (C8.pe_c (c_conclude T) hr (by decide) rfl (pa_cons (pv 0) (pa_cons (pv 1) (pa_cons (pv 9) (pa_cons (pv 4) pa_nil))))))))))), ?_⟩
    refine ⟨_, rfl, (by show 1 ≤ sizeLine; decide), fun l nl => ?_⟩
    (generalize hgen : upd _ _ _ = H1; have m1 := grow_same hgen nl; have t1 := grow_at hgen; clear hgen)
    have ulen : us.length = rl.premises.length := hus.length
    refine ⟨_, rfl, ar, _, _, _, rfl, rfl, m1.sqt sr, rfl, ap, us, rfl, m1.sqt sp, for_it (walk_enumT (K := K) (a := ap) (xs := us)) (fun i σ Hc => ∃ lr x6 x7 x8 x9 ws, σ = [some (.ref t), some (.ref ar), some (vN skip), some (.ref a), some (.ref d), some (.ref lr), x6, x7, x8, x9] ∧ L2.Same H Hc ∧ Hc lr = some (.lst ws) ∧
        Paired (RowO [] Hc) ws (Mi.sprRows n (Mi.readsOf es) rl skip vals i))
      ⟨l, none, none, none, none, [.ref a], rfl, m1, t1, .cons ⟨a, rfl, by simp, m1 _ _ ha⟩ .nil⟩ (fun i σ Hc _ ⟨_, _, _, _, _, _, _, z, _⟩ => z.sqt sp) ?_ ?_⟩
    · rintro i x σ Hc _ hi ⟨lr, x6, x7, x8, x9, ws, rfl, sm, hlr, hws⟩ ⟨Tq, y, rfl, nT, rfl, hy⟩
      obtain ⟨pat, hpat, apt, rfl, hpt⟩ := paired_at hus hy
      have po := ok.prem pat (List.mem_of_getElem? hpat)
      have w := Mi.spr_rws (skip := skip) ok hrds hl hin i (by omega)
      refine ⟨Tq, _, rfl, SqT.of upd_same, rfl, _, _, rfl, _, _, rfl, rfl, ?_⟩
      (generalize hgen : upd _ _ _ = H2; have m2 := grow_same hgen nT; have t2 := grow_at hgen; clear hgen)
      refine ⟨_, rfl, _, rfl, rfl, _, rfl, ite2 (fun h => ?_) fun h => ?_⟩
      · have hne : i ≠ skip := dec_ne.mp h
        refine ⟨Nat.zero_le _, fun L nL => ?_⟩
        (generalize hgen : upd _ _ _ = H3; have m3 := grow_same hgen nL; have t3 := grow_at hgen; clear hgen)
        have S3 := m2.trans m3
        refine ⟨_, rfl, lr, rfl, ⟨ws, SqL.of (S3 _ _ hlr)⟩, for_list (K := K) (a := lr) (xs := ws) (fun j σ H4 => ∃ x9, σ = [some (.ref t), some (.ref ar), some (vN skip), some (.ref a), some (.ref d), some (.ref lr), some (vN i), some (.ref apt), some (.ref L), x9] ∧ L2.Same Hc H4 ∧ ∃ vs, H4 L = some (.lst vs) ∧
            Paired (RowO [L] H4) vs (((Mi.sprRows n (Mi.readsOf es) rl skip vals i).take j).flatMap (Mi.chs n (Mi.readsOf es) pat 3)))
          ⟨x9, rfl, S3, [], t3, .nil⟩ (fun j σ H4 _ ⟨_, _, z, _⟩ => SqL.of (z _ _ hlr)) ?_ ?_⟩
        · rintro j y2 σ H4 hy2 ⟨x9, rfl, s4, vs, hL, hvs⟩
          obtain ⟨row, hrow, arow, rfl, _, hra⟩ := paired_at hws hy2
          have hmem := List.mem_of_getElem? hrow
          have S4 := sm.trans s4
          have w2 := (w.take (j + 1)).step po hrds
          refine ⟨_, rfl, .inl ⟨rfl, _, SqL.of hL⟩, _, rfl, _, rfl, _, rfl, t, _, arow, n, es, pat, row, rl.variableCount, Hz, rfl, hth.same (sb.trans S4), hes, ⟨apt, rfl, S4.sqt hpt⟩, po, ok.few, s4 _ _ hra, w.len row hmem, w.ent row hmem, h0, h7, Mi.opens_le _ _, fun H5 p vs2 m5 np hp5 hvs2 => ?_⟩
          have hL5 := m5 _ _ hL
          have hb := hfew w2
          rw [take_snoc hrow, List.flatMap_append, List.flatMap_singleton, List.length_append, ← hvs.length, ← hvs2.length] at hb
          refine ⟨L, p, vs, vs2, rfl, rfl, hL5, hp5, small_lineE (by omega), ?_⟩
          refine ⟨_, rfl, ((s4.trans m5).mut (m2.free nL)), vs ++ vs2, upd_same, ?_⟩
          rw [take_snoc hrow, List.flatMap_append, List.flatMap_singleton]
          refine paired_app (L2.Paired.mapP hvs fun _ _ z => rowO_upd (by simp) (rowO_same m5 z)) (L2.Paired.mapP hvs2 fun _ _ z => ?_)
          obtain ⟨a', rfl, fa, hla⟩ := z
          have na : a' ≠ L := by
            rcases fa with rfl | fa
            · exact ne_of_none (m2 _ _ hra) nL
            · exact fun z => by rw [z, hL] at fa; cases fa
          exact ⟨a', rfl, by simpa using na, keep hla na⟩
        · rintro σ H4 ⟨x9, rfl, s4, vs, hL, hvs⟩
          refine ⟨_, rfl, L, _, _, _, _, vs, rfl, sm.trans s4, hL, ?_⟩
          rw [hws.length, List.take_length] at hvs
          rw [Mi.sprRows_succ hpat, if_neg hne]
          exact L2.Paired.mapP hvs fun _ _ z => rowO_less z
      · have he : i = skip := by
          by_cases c : i = skip
          · exact c
          · exact absurd (dec_ne.mpr c) h
        refine ⟨lr, _, _, _, _, ws, rfl, sm.trans m2, m2 _ _ hlr, ?_⟩
        rw [Mi.sprRows_succ hpat, if_pos he]
        exact L2.Paired.mapP hws fun _ _ z => rowO_same m2 z
    · rintro σ Hc ⟨lr, x6, x7, x8, x9, ws, rfl, sm, hlr, hws⟩
      rw [ulen] at hws
      have w := Mi.spr_rws (skip := skip) ok hrds hl hin rl.premises.length (Nat.le_refl _)
      have wf := Mi.spr_full ok hrds hl hin hcl
      refine ⟨_, rfl, lr, rfl, ⟨ws, SqL.of hlr⟩, for_list (K := K) (a := lr) (xs := ws) (fun j σ H4 => ∃ x9, σ = [some (.ref t), some (.ref ar), some (vN skip), some (.ref a), some (.ref d), some (.ref lr), x6, x7, x8, x9] ∧ SameX d Hc H4 ∧
          DFnd H4 d (((Mi.sprRows n (Mi.readsOf es) rl skip vals rl.premises.length).take j).foldl (Mi.concls (es.map (·.1)) rl) ks))
        ⟨x9, rfl, SameX.refl, sm.dfnd hd⟩ (fun j σ H4 _ ⟨_, _, z, _⟩ => SqL.of (z _ _ (ne_kind hlr (sm _ _ hd0) fun z => nomatch z) hlr)) ?_ ?_⟩
      · rintro j y2 σ H4 hy2 ⟨x9, rfl, sx, hd4⟩
        obtain ⟨row, hrow, arow, rfl, _, hra⟩ := paired_at hws hy2
        have hmem := List.mem_of_getElem? hrow
        have S4 : L2.Same Hb H4 := sx.base (sb.trans sm) nd
        have hru4 : RuleAt K H4 (.ref ar) rl := (SameX.rule (sm.x.trans sx) hd0 hru)
        refine ⟨_, rfl, _, rfl, _, rfl, _, rfl, t, _, arow, d, n, es, rl, row, _, Hz, Hb, rfl, hth, S4, nd, hes, hru4, ok, sx _ _ (ne_kind hra (sm _ _ hd0) fun z => nomatch z) hra, w.ent row hmem, wf row hmem, h7, hd4, ?_, fun H5 sx5 hd5 => ?_⟩
        · exact Mi.concls_fold_fl ok (fun r hm => ⟨w.ent r (List.mem_of_mem_take hm), wf r (List.mem_of_mem_take hm)⟩) hks
        · refine ⟨_, rfl, sx.trans sx5, ?_⟩
          rw [take_snoc hrow, List.foldl_append]
          exact hd5
      · rintro σ H4 ⟨x9, rfl, sx, hd4⟩
        rw [hws.length, List.take_length] at hd4
        exact q H4 (sm.x.trans sx) hd4
end
end G
set_option Elab.async false
set_option maxRecDepth 100000
set_option maxHeartbeats 4000000
namespace G
open PySem PySem.Spec PyProof.Rows L2
open Kh375 (Fact Rule)
/-! ### sorted facts -/
def tupOf (q : Addr × Fact) : TupA := (q.1, (q.2.kind : Int), q.2.points.map fun n : Nat => (n : Int))
def factOf (b : TupA) : Fact := ⟨b.2.1.toNat, b.2.2.map Int.toNat⟩
theorem tup_ints (q : Addr × Fact) : (tupOf q).ints = fI q.2 := rfl
theorem fact_tup (q : Addr × Fact) : factOf (tupOf q) = q.2 := by
  obtain ⟨b, k, ps⟩ := q
  show (⟨((k : Nat) : Int).toNat, (ps.map fun n : Nat => (n : Int)).map Int.toNat⟩ : Fact) = ⟨k, ps⟩
  rw [Int.toNat_natCast, List.map_map]
  congr 1
  exact (List.map_congr_left (fun x _ => Int.toNat_natCast x)).trans (List.map_id _)
theorem lex_lt : ∀ {a b : List Nat}, Kh375.isLexLess a b = true → (a.map fun n : Nat => (n : Int)) < (b.map fun n : Nat => (n : Int))
  | [], _, h => by cases h
  | _ :: _, [], h => by cases h
  | x :: a, y :: b, h => by
    simp only [Kh375.isLexLess, Bool.or_eq_true, decide_eq_true_eq, Bool.and_eq_true] at h
    rw [List.map_cons, List.map_cons, List.cons_lt_cons_iff]
    rcases h with h | ⟨h1, h2⟩
    · exact .inl (by omega)
    · exact .inr ⟨by rw [h1], lex_lt h2⟩
theorem before_lex (f g : Fact) : Kh375.isBefore f g = Kh375.isLexLess (f.kind :: f.points) (g.kind :: g.points) := rfl
theorem not_before {f g : Fact} (h : fI f ≤ fI g) : Kh375.isBefore g f = false := by
  rw [before_lex, Bool.eq_false_iff]
  intro z
  exact List.not_lt.mpr h (lex_lt z)
/-- sorted facts are told by their members -/
def SortedF (fs ks : List Fact) : Prop := fs.Perm ks ∧ fs.Pairwise fun f g => Kh375.isBefore g f = false
theorem sort_facts {H : Hp} {bs : List Addr} {ks : List Fact} (h : Paired (fun b f => H b = some (.tup (fV f))) bs ks) :
    ∃ ps : List TupA, ps.map (fun b => V.ref b.1) = bs.map V.ref ∧ (∀ b ∈ ps, H b.1 = some (.tup (b.ints.map V.int))) ∧ ∃ fs, SortedF fs ks ∧ Paired (Tp H) ((ps.mergeSort fun p q => decide (p.ints ≤ q.ints)).map fun b => V.ref b.1) fs := by
  obtain ⟨qs, rfl, rfl, hq⟩ : ∃ qs : List (Addr × Fact), bs = qs.map (·.1) ∧ ks = qs.map (·.2) ∧ ∀ q ∈ qs, H q.1 = some (.tup (fV q.2)) := by
    induction h with
    | nil => exact ⟨[], rfl, rfl, by simp⟩
    | cons h _ ih =>
      obtain ⟨qs, rfl, rfl, hq⟩ := ih
      exact ⟨(_, _) :: qs, rfl, rfl, fun q hm => by
        rcases List.mem_cons.mp hm with rfl | hm
        · exact h
        · exact hq q hm⟩
  have hall : ∀ b ∈ qs.map tupOf, H b.1 = some (.tup (fV (factOf b))) ∧ fI (factOf b) = b.ints := fun b hb => by
    obtain ⟨q, hm, rfl⟩ := List.mem_map.mp hb
    rw [fact_tup]
    exact ⟨hq q hm, rfl⟩
  have hperm := List.mergeSort_perm (qs.map tupOf) fun p q => decide (p.ints ≤ q.ints)
  refine ⟨qs.map tupOf, by rw [List.map_map, List.map_map]; rfl, fun b hb => ?_, ((qs.map tupOf).mergeSort fun p q => decide (p.ints ≤ q.ints)).map factOf, ⟨?_, ?_⟩, ?_⟩
  · rw [(hall b hb).1, ← fI_V, (hall b hb).2]
  · have z := hperm.map factOf
    rw [List.map_map] at z
    refine z.trans (.of_eq ?_)
    exact List.map_congr_left fun q _ => fact_tup q
  · rw [List.pairwise_map]
    have z := List.pairwise_mergeSort (le := fun p q : TupA => decide (p.ints ≤ q.ints)) (fun a b c h1 h2 => by
      simp only [decide_eq_true_eq] at h1 h2 ⊢
      exact List.le_trans h1 h2) (fun a b => by
      simp only [Bool.or_eq_true, decide_eq_true_eq]
      exact List.le_total a.ints b.ints) (qs.map tupOf)
    refine z.imp_of_mem fun {a b} ha hb hab => not_before ?_
    rw [(hall a (hperm.mem_iff.mp ha)).2, (hall b (hperm.mem_iff.mp hb)).2]
    exact of_decide_eq_true hab
  · have : ∀ l : List TupA, (∀ b ∈ l, b ∈ qs.map tupOf) → Paired (Tp H) (l.map fun b => V.ref b.1) (l.map factOf) := by
      intro l
      induction l with
      | nil => exact fun _ => .nil
      | cons b l ih => exact fun hm => .cons ⟨b.1, rfl, (hall b (hm b (List.mem_cons_self ..))).1⟩ (ih fun c hc => hm c (List.mem_cons_of_mem _ hc))
    exact this _ fun b hb => hperm.mem_iff.mp hb
theorem keys_paired {H : Hp} : ∀ {kvs : List (List L2.Key × V)} {ks : List Fact} {bs : List Addr}, kvs.map (·.1) = ks.map keyF → IsKeys H kvs bs → Paired (fun b f => H b = some (.tup (fV f))) bs ks
  | [], [], _, _, .nil => .nil
  | [], _ :: _, _, h, _ => by cases h
  | _ :: _, [], _, h, _ => by cases h
  | kv :: kvs, k :: ks, _, h, .cons a t => by
    simp only [List.map_cons, List.cons.injEq] at h
    refine .cons ?_ (keys_paired h.2 t)
    rw [a, h.1, keyF_kV]
section
variable {P : Program} {w : World} {K : PySem.W.Frag} {mg : Str → Option Value} {base : Heap} {A : Ad}
/-! derived: slots 0 theory, 1 news, 2 found, 3 fact, 4 reading, 5 rule, 6 at, 7 pattern, 8 values -/
abbrev s_derived : Stmt := topS 41
abbrev N_derived : List Str := ["theory", "news", "found", "fact", "reading", "rule", "at", "pattern", "values"]
theorem sc_derived : FnScope N_derived ["theory", "news"] (defScope s_derived) := C8.fnScope_by (by decide +kernel)
def sp_derived (A : Ad) : Sp := fun vs H Q _ => ∃ (t ln : Addr) (n : Nat) (es : List (Fact × Nat)) (news : List Fact) (Hz : Hp), vs = [.ref t, .ref ln] ∧ ThAt A Hz H t n es ∧ Mi.Fl n (es.map (·.1)) ∧ Ls H ln news ∧ (∀ f ∈ news, Mi.Va n f) ∧ 0 < n ∧ n ≤ 7 ∧
  ∀ H' p fs, L2.Same H H' → H p = none → Ls H' p fs → SortedF fs (Mi.der n (Mi.readsOf es) (es.map (·.1)) news) → Q (.ref p) H'
theorem c_derived (T : Txt K mg A) : C8.Cal P w K mg base 7 "derived" (sp_derived A) [] := by
  obtain ⟨f, fd, F, b⟩ := T.d_derived.ex
  refine C8.cal0 F b .nil sc_derived ?_ ?_
  · rintro vs H Q E ⟨t, ln, n, es, news, Hz, rfl, _⟩
    rfl
  · rintro cdv _ outer s H vs Q E hr ⟨t, ln, n, es, news, Hz, rfl, hth, hes, ⟨lus, hln, hlus⟩, hva, h0, h7, q⟩
    have hrds : Mi.Rds n (Mi.readsOf es) := by rw [Mi.readsOf_is]; exact Mi.rds_of hes
    obtain ⟨rs, hrs⟩ := T.rules
    have rslen : rs.length = Kh375.rules.length := (hrs H).2.length
    generalize eR : Mi.readsOf es = R at *
    generalize eF : es.map (·.1) = fs at *
    refine ⟨_, (pss_cons (ps_set (i := 2) sc_derived.nd rfl (Or.inl rfl) pe_dnewT)
        (pss_cons (ps_for PassesOwn.never rfl (pi_list (pv 1)) (pg_name (i := 3) sc_derived.nd rfl (Or.inl rfl))
        (pss_one (ps_for PassesOwn.never rfl (pi_list (C8.pe_c (c_readings T) hr (by decide) rfl (pa_cons (pv 3) pa_nil))) (pg_name (i := 4) sc_derived.nd rfl (Or.inl rfl))
        (pss_one (ps_for PassesOwn.never rfl (pi_tup (C8.pe_gc rfl T.g_RULES)) (pg_name (i := 5) sc_derived.nd rfl (Or.inl rfl))
        (pss_one (ps_for PassesOwn.never rfl (pi_enumT rfl T.n_enumerate (pa_cons (pe_ix ix_tup (pv 5) pe_int (fun _ _ => rfl)) pa_nil)) (pg_tup rfl (pgs_cons (pg_name (i := 6) sc_derived.nd rfl (Or.inl rfl)) (pgs_cons (pg_name (i := 7) sc_derived.nd rfl (Or.inl rfl)) pgs_nil)))
        (pss_one (ps_if (pt_cmpR op_eq (pe_ix ix_tup (pv 7) pe_int (fun _ _ => rfl)) (pe_ix ix_tup (pv 4) pe_int (fun _ _ => rfl)) (nomark _)) (pss_cons (ps_set (i := 8) sc_derived.nd rfl (Or.inl rfl) (C8.pe_c (c_matched T) hr (by decide) rfl (pa_cons (pv 7) (pa_cons (pv 4) (pa_cons (pe_op op_rep (pe_lst (pa_cons (pe_un un_neg pe_int) pa_nil)) (pe_ix ix_tup (pv 5) pe_int (fun _ _ => rfl))) pa_nil)))))
        (pss_one (ps_if (pt_cmpR op_notN (pv 8) pe_non (nomark _)) (pss_one (ps_expr (C8.pe_c (c_spread T) hr (by decide) rfl (pa_cons (pv 0) (pa_cons (pv 5) (pa_cons (pv 6) (pa_cons (pv 8) (pa_cons (pv 2) pa_nil)))))))) pss_nil))) pss_nil)))))))))
        (pss_one (ps_ret (pe_callB (cr_sortTs (hu70 hr)) rfl T.n_sorted (by decide +kernel) (pa_cons (pe_callTy (call_list_dT rfl) rfl T.n_list (by decide +kernel) (pa_cons (pv 2) pa_nil)) pa_nil)))))), ?_⟩
    refine fun d nd => ?_
    have m0 : L2.Same H (upd H d (.dT [])) := L2.Same.new nd
    have d0 : DFnd (upd H d (.dT [])) d [] := ⟨[], upd_same, rfl⟩
    generalize upd H d (.dT []) = H1 at *
    refine ⟨_, rfl, ln, rfl, ⟨lus, SqL.of (m0 _ _ hln)⟩, for_list (K := K) (a := ln) (xs := lus) (fun i σ Hc => ∃ x3 x4 x5 x6 x7 x8, σ = [some (.ref t), some (.ref ln), some (.ref d), x3, x4, x5, x6, x7, x8] ∧ SameX d H1 Hc ∧ DFnd Hc d ((news.take i).foldl (Mi.derFact n R fs) []) ∧ Mi.Fl n ((news.take i).foldl (Mi.derFact n R fs) []))
      ⟨none, none, none, none, none, none, rfl, SameX.refl, d0, List.nodup_nil, by simp⟩ (fun i σ Hc _ ⟨_, _, _, _, _, _, _, z, _⟩ => SqL.of ((z.base m0 nd) _ _ hln)) ?_ ?_⟩
    · rintro i y σ Hc hy ⟨x3, x4, x5, x6, x7, x8, rfl, sx, hd, hfl⟩
      obtain ⟨fc, hfc, hfa⟩ := paired_at hlus hy
      have sH : L2.Same H Hc := sx.base m0 nd
      obtain ⟨af, rfl, haf⟩ := sH.tp hfa
      have va := hva fc (List.mem_of_getElem? hfc)
      generalize eK : (news.take i).foldl (Mi.derFact n R fs) [] = K0 at *
      refine ⟨_, rfl, _, fc, rfl, ⟨af, rfl, haf⟩, va.nf, fun H2 p us m2 np hp hus => ?_⟩
      refine ⟨p, rfl, ⟨us, SqL.of hp⟩, for_list (K := K) (a := p) (xs := us) (fun j σ H3 => ∃ x4 x5 x6 x7 x8, σ = [some (.ref t), some (.ref ln), some (.ref d), some (.ref af), x4, x5, x6, x7, x8] ∧ SameX d H2 H3 ∧ DFnd H3 d (((Mi.readings fc).take j).foldl (Mi.derRead n R fs) K0) ∧ Mi.Fl n (((Mi.readings fc).take j).foldl (Mi.derRead n R fs) K0))
        ⟨x4, x5, x6, x7, x8, rfl, SameX.refl, m2.dfnd hd, hfl⟩ (fun j σ H3 _ ⟨_, _, _, _, _, _, z, _⟩ => ?_) ?_ ?_⟩
      · obtain ⟨kv2, hd2, _⟩ := m2.dfnd hd
        exact SqL.of (z _ _ (ne_kind hp hd2 fun z => nomatch z) hp)
      · rintro j y σ H3 hy ⟨x4, x5, x6, x7, x8, rfl, sx3, hd3, hfl3⟩
        obtain ⟨rd, hrd, hra⟩ := paired_at hus hy
        obtain ⟨kv2, hd2, _⟩ := m2.dfnd hd
        obtain ⟨ard, rfl, hard⟩ := hra
        have hard3 := sx3 _ _ (ne_kind hard hd2 fun z => nomatch z) hard
        have hmem := List.mem_of_getElem? hrd
        have rsame := Mi.reading_same va.nf hmem
        have rpts := Mi.read_pts va hmem
        have sH3 : L2.Same H H3 := (m2.x.trans sx3).base sH nd
        generalize eK1 : ((Mi.readings fc).take j).foldl (Mi.derRead n R fs) K0 = K1 at *
        refine ⟨A.rules, rfl, ⟨rs, (hrs _).1⟩, for_tup (K := K) (a := A.rules) (xs := rs) (fun r σ H4 => ∃ x5 x6 x7 x8, σ = [some (.ref t), some (.ref ln), some (.ref d), some (.ref af), some (.ref ard), x5, x6, x7, x8] ∧ SameX d H3 H4 ∧ DFnd H4 d ((Kh375.rules.take r).foldl (Mi.derRule n R fs rd) K1) ∧ Mi.Fl n ((Kh375.rules.take r).foldl (Mi.derRule n R fs rd) K1))
          ⟨x5, x6, x7, x8, rfl, SameX.refl, hd3, hfl3⟩ (fun r σ H4 _ _ => (hrs H4).1) ?_ ?_⟩
        · rintro r y σ H4 hy ⟨x5, x6, x7, x8, rfl, sx4, hd4, hfl4⟩
          obtain ⟨rl, hrl, hru⟩ := paired_at (hrs H4).2 hy
          have ok := Mi.rule_ok (List.mem_of_getElem? hrl)
          obtain ⟨kv4, hd4', _⟩ := id hd4
          obtain ⟨ar, vp, vc, rfl, sr, hp4, hc4⟩ := id hru
          obtain ⟨ap, ws, rfl, sp, hws⟩ := hp4
          have sH4 : L2.Same H H4 := sx4.base sH3 nd
          generalize eK2 : (Kh375.rules.take r).foldl (Mi.derRule n R fs rd) K1 = K2 at *
          refine ⟨_, rfl, ar, _, _, _, rfl, rfl, sr, rfl, ap, ws, rfl, sp, for_it (walk_enumT (K := K) (a := ap) (xs := ws)) (fun k σ H5 => ∃ x6 x7 x8, σ = [some (.ref t), some (.ref ln), some (.ref d), some (.ref af), some (.ref ard), some (.ref ar), x6, x7, x8] ∧ SameX d H4 H5 ∧ DFnd H5 d ((rl.premises.zipIdx.take k).foldl (Mi.derAt n R fs rl rd) K2) ∧ Mi.Fl n ((rl.premises.zipIdx.take k).foldl (Mi.derAt n R fs rl rd) K2))
            ⟨x6, x7, x8, rfl, SameX.refl, hd4, hfl4⟩ (fun k σ H5 _ ⟨_, _, _, _, z, _⟩ => z.sqt hd4' sp) ?_ ?_⟩
          · rintro k x σ H5 _ hk ⟨x6, x7, x8, rfl, sx5, hd5, hfl5⟩ ⟨Tq, y, rfl, nT, rfl, hy⟩
            obtain ⟨pat, hpat, apt, rfl, hpt⟩ := paired_at hws hy
            have po := ok.prem pat (List.mem_of_getElem? hpat)
            have ez : (rl.premises.zipIdx.take (k + 1)).foldl (Mi.derAt n R fs rl rd) K2 = Mi.derAt n R fs rl rd ((rl.premises.zipIdx.take k).foldl (Mi.derAt n R fs rl rd) K2) (pat, k) := by
              have hz := Mi.zip_take hpat
              rw [take_snoc hz, List.foldl_append]
              rfl
            rw [ez]
            generalize eK3 : (rl.premises.zipIdx.take k).foldl (Mi.derAt n R fs rl rd) K2 = K3 at *
            obtain ⟨kv5, hd5', _⟩ := id hd5
            refine ⟨Tq, _, rfl, SqT.of upd_same, rfl, _, _, rfl, _, _, rfl, rfl, ?_⟩
            (generalize hgen : upd _ _ _ = H6; have m6 := grow_same hgen nT; have t6 := grow_at hgen; clear hgen)
            have sx6 : SameX d H4 H6 := sx5.trans m6.x
            have hpt6 := sx6.sqt hd4' hpt
            have hard6 : H6 ard = some (.tup (fV rd)) := sx6 _ _ (ne_kind (sx4 _ _ (ne_kind hard3 hd3.choose_spec.1 fun z => nomatch z) hard3) hd4' fun z => nomatch z) (sx4 _ _ (ne_kind hard3 hd3.choose_spec.1 fun z => nomatch z) hard3)
            refine ⟨_, rfl, apt, _, _, _, rfl, rfl, hpt6, fV_at0 pat, _, rfl, ard, _, _, _, rfl, rfl, SqT.of hard6, fV_at0 rd, rfl, _, rfl, ite2 (fun h => ?_) fun h => ?_⟩
            · have ek : pat.kind = rd.kind := dec_vN.mp h
              have plen : pat.points.length = rd.points.length := by rw [po.len, rsame.2, va.nf.len, ek, rsame.1]
              refine ⟨_, rfl, _, rfl, _, rfl, (by show 1 ≤ sizeLine; decide), fun l1 n1 => ?_⟩
              (generalize hgen : upd _ _ _ = H7; have m7 := grow_same hgen n1; have t7 := grow_at hgen; clear hgen)
              refine ⟨_, rfl, ar, _, _, _, rfl, rfl, m7.sqt (sx6.sqt hd4' sr), rfl, l1, _, _, rfl, rfl, t7, by omega, ?_, ?_, fun l2 n2 => ?_⟩
              · have := ok.few
                omega
              · refine small_lineE ?_
                have := ok.few
                simp only [List.length_singleton, Int.toNat_natCast]
                omega
              (generalize hgen : upd _ _ _ = H8; have m8 := grow_same hgen n2; have t8 := grow_at hgen; clear hgen)
              have hv : LO H8 l2 (List.replicate rl.variableCount none) := by
                show H8 l2 = _
                rw [t8, Int.toNat_natCast, List.map_replicate]
                congr 2
                generalize rl.variableCount = m
                induction m with
                | zero => rfl
                | succ m ih => rw [List.replicate_succ, List.flatten_cons, ih]; rfl
              have S8 := m7.trans m8
              refine ⟨_, _, l2, pat, rd, _, rfl, ⟨apt, rfl, S8.sqt hpt6⟩, ⟨ard, rfl, S8 _ _ hard6⟩, hv, by rw [List.length_replicate]; exact ok.few, plen, fun i hi => by rw [List.length_replicate]; exact po.vars i hi, fun H9 m9 => ⟨fun em => ?_, fun l3 vals n3 t9 em => ?_⟩⟩
              · refine ⟨_, rfl, rfl, _, rfl, iteF ⟨_, _, _, rfl, sx6.trans (S8.trans m9).x, ?_⟩⟩
                have e : Mi.derAt n R fs rl rd K3 (pat, k) = K3 := by
                  unfold Mi.derAt
                  rw [if_pos ek, em]
                rw [e]
                exact ⟨(m6.trans (S8.trans m9)).dfnd hd5, hfl5⟩
              · have e : Mi.derAt n R fs rl rd K3 (pat, k) = Mi.spr n R fs rl k vals K3 := by
                  unfold Mi.derAt
                  rw [if_pos ek, em]
                rw [e]
                have g := Mi.match_grown po (List.length_replicate ..) (Mi.none_in n _) plen rpts em
                have gl : vals.length = rl.variableCount := by rw [g.len, List.length_replicate]
                have gc : ∀ p2, rl.premises[k]? = some p2 → ∀ i ∈ p2.points, Mi.Cl vals i := fun p2 e2 => by
                  rw [hpat] at e2
                  rw [← Option.some.inj e2]
                  exact g.cl
                have sx9 : SameX d H4 H9 := sx6.trans (S8.trans m9).x
                refine ⟨_, rfl, rfl, _, rfl, iteT ⟨_, rfl, _, rfl, _, rfl, _, rfl, _, rfl, t, _, l3, d, n, k, es, rl, vals, K3, Hz, H, rfl, hth, sx9.base sH4 nd, nd, by rw [eF]; exact hes, sx9.rule hd4' hru, ok, t9, gl, g.ent, gc, h0, h7, (m6.trans (S8.trans m9)).dfnd hd5, hfl5, fun H10 sx10 hd10 => ?_⟩⟩
                rw [eR, eF] at hd10
                exact ⟨_, _, _, rfl, sx9.trans sx10, hd10, Mi.spr_fl ok hrds gl g.ent gc hfl5⟩
            · have ek : ¬ pat.kind = rd.kind := fun z => h (dec_vN.mpr z)
              have e : Mi.derAt n R fs rl rd K3 (pat, k) = K3 := by
                unfold Mi.derAt
                rw [if_neg ek]
              rw [e]
              exact ⟨_, _, _, rfl, sx6, m6.dfnd hd5, hfl5⟩
          · rintro σ H5 ⟨x6, x7, x8, rfl, sx5, hd5, hfl5⟩
            have e : ws.length = rl.premises.zipIdx.length := by rw [hws.length, List.length_zipIdx]
            rw [e, List.take_length] at hd5 hfl5
            refine ⟨_, _, _, _, rfl, sx4.trans sx5, ?_⟩
            rw [take_snoc hrl, List.foldl_append, eK2]
            exact ⟨hd5, hfl5⟩
        · rintro σ H4 ⟨x5, x6, x7, x8, rfl, sx4, hd4, hfl4⟩
          rw [rslen, List.take_length] at hd4 hfl4
          refine ⟨_, _, _, _, _, rfl, sx3.trans sx4, ?_⟩
          rw [take_snoc hrd, List.foldl_append, eK1]
          exact ⟨hd4, hfl4⟩
      · rintro σ H3 ⟨x4, x5, x6, x7, x8, rfl, sx3, hd3, hfl3⟩
        have e : us.length = (Mi.readings fc).length := hus.length
        rw [e, List.take_length] at hd3 hfl3
        refine ⟨_, _, _, _, _, _, rfl, sx.trans (m2.x.trans sx3), ?_⟩
        rw [take_snoc hfc, List.foldl_append, eK]
        exact ⟨hd3, hfl3⟩
    · rintro σ Hc ⟨x3, x4, x5, x6, x7, x8, rfl, sx, hd, hfl⟩
      have e : lus.length = news.length := hlus.length
      rw [e, List.take_length] at hd
      have sH : L2.Same H Hc := sx.base m0 nd
      obtain ⟨kv, k1, k2⟩ := hd
      refine ⟨_, rfl, d, kv, rfl, .inl k1, fun l bs nl hbs => ?_⟩
      (generalize hgen : upd _ _ _ = H2; have m2 := grow_same hgen nl; have t2 := grow_at hgen; clear hgen)
      obtain ⟨ps, e1, e2, gs, hgs, hpg⟩ := sort_facts (keys_paired k2 hbs)
      refine ⟨l, ps, rfl, SqL.of (by rw [t2, e1]), fun b hb => SqT.of (m2 _ _ (e2 b hb)), fun p np => ?_⟩
      exact q _ p gs ((sH.trans m2).trans (L2.Same.new np)) ((sH.trans m2).free np) ⟨_, upd_same, (m2.trans (L2.Same.new np)).tps hpg⟩ hgs
end
end G
/-! what derived gives; sorted facts; the rounds. -/
namespace Mi
open Kh375
theorem mem_fold {α β : Type} {step : List β → α → List β} {Pr : α → β → Prop} : ∀ {l : List α}, (∀ ks, ∀ x ∈ l, ∀ g, g ∈ step ks x ↔ g ∈ ks ∨ Pr x g) → ∀ (ks : List β) (g : β), g ∈ l.foldl step ks ↔ g ∈ ks ∨ ∃ x ∈ l, Pr x g
  | [], _, ks, g => by simp
  | x :: l, h, ks, g => by
    rw [List.foldl_cons, mem_fold (fun ks y hy g => h ks y (List.mem_cons_of_mem _ hy) g), h ks x (List.mem_cons_self ..)]
    constructor
    · rintro ((h | h) | ⟨y, hy, h⟩)
      · exact .inl h
      · exact .inr ⟨x, List.mem_cons_self .., h⟩
      · exact .inr ⟨y, List.mem_cons_of_mem _ hy, h⟩
    · rintro (h2 | ⟨y, hy, h2⟩)
      · exact .inl (.inl h2)
      · rcases List.mem_cons.mp hy with rfl | hy
        · exact .inl (.inr h2)
        · exact .inr ⟨y, hy, h2⟩
/-- what one assignment of a rule gives -/
def gives (fs : List Fact) (rl : Rule) (x : List Nat) (g : Fact) : Prop := (∃ c ∈ rl.conclusions, normalize (substitute x c) = some g) ∧ g ∉ fs
theorem row_sub {n : Nat} {rl : Rule} {row : Row} {x : List Nat} (ok : RuleOk rl) (hf : Full rl.variableCount row) (hx : x ∈ asg n row) {c : Fact} (hc : c ∈ rl.conclusions) : substitute x c = fill c row :=
  sub_fill (fun i hi => by rw [hf.1]; exact (ok.conc c hc).vars i hi) (fun i hi => hf.2 i ((ok.conc c hc).vars i hi)) hx
theorem mem_spr {n : Nat} {reads fs : List Fact} {rl : Rule} {skip : Nat} {vals : Row} {ks : List Fact} (h0 : 0 < n) (ok : RuleOk rl) (hr : Rds n reads) (hl : vals.length = rl.variableCount) (hi : RowIn n vals) (hc : ∀ pat, rl.premises[skip]? = some pat → ∀ v ∈ pat.points, Cl vals v) (g : Fact) :
    g ∈ spr n reads fs rl skip vals ks ↔ g ∈ ks ∨ ∃ x, x ∈ asg n vals ∧ (∀ j pat, j ≠ skip → rl.premises[j]? = some pat → substitute x pat ∈ reads) ∧ gives fs rl x g := by
  unfold spr
  rw [mem_fold (step := concls fs rl) (Pr := fun row g => ∃ c ∈ rl.conclusions, normalize (fill c row) = some g ∧ g ∉ fs) fun ks row _ g => mem_concls]
  have w := spr_rws (skip := skip) ok hr hl hi rl.premises.length (Nat.le_refl _)
  have wf := spr_full ok hr hl hi hc
  refine or_congr_right ?_
  constructor
  · rintro ⟨row, hrow, c, hcn, e, hn⟩
    obtain ⟨x, hx⟩ := asg_pos h0 (w.ent row hrow)
    have z := (spr_mem ok hr hl hi x _ (Nat.le_refl _)).mp (List.mem_flatMap.mpr ⟨row, hrow, hx⟩)
    refine ⟨x, z.1, fun j pat hj hp => z.2 j pat (List.getElem?_eq_some_iff.mp hp).1 hj hp, ⟨c, hcn, ?_⟩, hn⟩
    rw [row_sub ok (wf row hrow) hx hcn]
    exact e
  · rintro ⟨x, hx, hall, ⟨c, hcn, e⟩, hn⟩
    have z := (spr_mem (skip := skip) ok hr hl hi x _ (Nat.le_refl _)).mpr ⟨hx, fun j pat _ hj hp => hall j pat hj hp⟩
    obtain ⟨row, hrow, hxr⟩ := List.mem_flatMap.mp z
    refine ⟨row, hrow, c, hcn, ?_, hn⟩
    rw [← row_sub ok (wf row hrow) hxr hcn]
    exact e
/-- an assignment of a rule whose premises are read -/
structure Fit (n : Nat) (reads : List Fact) (rl : Rule) (x : List Nat) : Prop where
  mem : x ∈ asg n (List.replicate rl.variableCount none)
  prem : ∀ p ∈ rl.premises, substitute x p ∈ reads
theorem zip_mem {rl : Rule} {q : Fact × Nat} : q ∈ rl.premises.zipIdx ↔ rl.premises[q.2]? = some q.1 := by
  rw [List.mem_zipIdx_iff_getElem?]
theorem mem_derAt {n : Nat} {reads fs : List Fact} {rl : Rule} {rd : Fact} (h0 : 0 < n) (ok : RuleOk rl) (hr : Rds n reads) (hrd : rd ∈ reads) (ks : List Fact) (q : Fact × Nat) (hq : q ∈ rl.premises.zipIdx) (g : Fact) :
    g ∈ derAt n reads fs rl rd ks q ↔ g ∈ ks ∨ ∃ x, Fit n reads rl x ∧ substitute x q.1 = rd ∧ gives fs rl x g := by
  obtain ⟨pat, k⟩ := q
  have hp : rl.premises[k]? = some pat := zip_mem.mp hq
  have po := ok.prem pat (List.mem_of_getElem? hp)
  unfold derAt
  dsimp only
  by_cases ek : pat.kind = rd.kind
  · rw [if_pos ek]
    have plen : pat.points.length = rd.points.length := by rw [po.len, hr.len rd hrd, ek]
    have hm : (List.replicate rl.variableCount (none : Option Nat)).length = rl.variableCount := List.length_replicate ..
    cases em : matchP pat rd (List.replicate rl.variableCount none) with
    | none =>
      constructor
      · exact .inl
      · rintro (h | ⟨x, hx, e, _⟩)
        · exact h
        · exact absurd e (match_none po hm ek.symm plen (hr.pts rd hrd) em x hx.mem)
    | some vals =>
      have gr := match_grown po hm (none_in n _) plen (hr.pts rd hrd) em
      have gl : vals.length = rl.variableCount := by rw [gr.len, hm]
      have gc : ∀ p2, rl.premises[k]? = some p2 → ∀ i ∈ p2.points, Cl vals i := fun p2 e2 => by
        rw [hp] at e2
        rw [← Option.some.inj e2]
        exact gr.cl
      have mm := match_mem po hm ek.symm plen (hr.pts rd hrd) em
      show g ∈ spr n reads fs rl k vals ks ↔ _
      rw [mem_spr h0 ok hr gl gr.ent gc]
      refine or_congr_right ⟨?_, ?_⟩
      · rintro ⟨x, hx, hall, hg⟩
        have z := (mm x).mp hx
        refine ⟨x, ⟨z.1, fun p hpm => ?_⟩, z.2, hg⟩
        obtain ⟨j, hj⟩ := List.getElem?_of_mem hpm
        by_cases c : j = k
        · subst c
          rw [hp] at hj
          rw [← Option.some.inj hj, z.2]
          exact hrd
        · exact hall j p c hj
      · rintro ⟨x, hx, e, hg⟩
        exact ⟨x, (mm x).mpr ⟨hx.mem, e⟩, fun j p _ hj => hx.prem p (List.mem_of_getElem? hj), hg⟩
  · rw [if_neg ek]
    constructor
    · exact .inl
    · rintro (h | ⟨x, _, e, _⟩)
      · exact h
      · exact absurd (congrArg Fact.kind e) ek
/-- what derived finds -/
theorem mem_der {n : Nat} {fs news : List Fact} (h0 : 0 < n) (hfl : Fl n fs) (hn : ∀ f ∈ news, f ∈ fs) (g : Fact) :
    g ∈ der n (rdsOf fs) fs news ↔ ∃ rl ∈ rules, ∃ x, Fit n (rdsOf fs) rl x ∧ (∃ p ∈ rl.premises, ∃ f ∈ news, substitute x p ∈ readings f) ∧ gives fs rl x g := by
  have hr := rds_of hfl
  have s1 : ∀ (rl : Rule) (rd : Fact), rl ∈ rules → rd ∈ rdsOf fs → ∀ ks g, g ∈ derRule n (rdsOf fs) fs rd ks rl ↔ g ∈ ks ∨ ∃ p ∈ rl.premises, ∃ x, Fit n (rdsOf fs) rl x ∧ substitute x p = rd ∧ gives fs rl x g := fun rl rd hrl hrd ks g => by
    unfold derRule
    rw [mem_fold (Pr := fun q g => ∃ x, Fit n (rdsOf fs) rl x ∧ substitute x q.1 = rd ∧ gives fs rl x g) fun ks q hq g => mem_derAt h0 (rule_ok hrl) hr hrd ks q hq g]
    refine or_congr_right ⟨?_, ?_⟩
    · rintro ⟨q, hq, z⟩
      exact ⟨q.1, List.mem_of_getElem? (zip_mem.mp hq), z⟩
    · rintro ⟨p, hp, z⟩
      obtain ⟨k, hk⟩ := List.getElem?_of_mem hp
      exact ⟨(p, k), zip_mem.mpr hk, z⟩
  have s2 : ∀ (rd : Fact), rd ∈ rdsOf fs → ∀ ks g, g ∈ derRead n (rdsOf fs) fs ks rd ↔ g ∈ ks ∨ ∃ rl ∈ rules, ∃ p ∈ rl.premises, ∃ x, Fit n (rdsOf fs) rl x ∧ substitute x p = rd ∧ gives fs rl x g := fun rd hrd ks g => by
    unfold derRead
    rw [mem_fold (Pr := fun rl g => ∃ p ∈ rl.premises, ∃ x, Fit n (rdsOf fs) rl x ∧ substitute x p = rd ∧ gives fs rl x g) fun ks rl hrl g => s1 rl rd hrl hrd ks g]
  have s3 : ∀ (f : Fact), f ∈ fs → ∀ ks g, g ∈ derFact n (rdsOf fs) fs ks f ↔ g ∈ ks ∨ ∃ rd ∈ readings f, ∃ rl ∈ rules, ∃ p ∈ rl.premises, ∃ x, Fit n (rdsOf fs) rl x ∧ substitute x p = rd ∧ gives fs rl x g := fun f hf ks g => by
    unfold derFact
    rw [mem_fold (Pr := fun rd g => ∃ rl ∈ rules, ∃ p ∈ rl.premises, ∃ x, Fit n (rdsOf fs) rl x ∧ substitute x p = rd ∧ gives fs rl x g) fun ks rd hrd g => s2 rd (List.mem_flatMap.mpr ⟨f, hf, hrd⟩) ks g]
  unfold der
  rw [mem_fold (Pr := fun f g => ∃ rd ∈ readings f, ∃ rl ∈ rules, ∃ p ∈ rl.premises, ∃ x, Fit n (rdsOf fs) rl x ∧ substitute x p = rd ∧ gives fs rl x g) fun ks f hf g => s3 f (hn f hf) ks g]
  constructor
  · rintro (h | ⟨f, hf, rd, hrd, rl, hrl, p, hp, x, hx, e, hg⟩)
    · cases h
    · exact ⟨rl, hrl, x, hx, ⟨p, hp, f, hf, by rw [e]; exact hrd⟩, hg⟩
  · rintro ⟨rl, hrl, x, hx, ⟨p, hp, f, hf, hrd⟩, hg⟩
    exact .inr ⟨f, hf, _, hrd, rl, hrl, p, hp, x, hx, rfl, hg⟩
/-! ### the found facts are facts -/
theorem derAt_fl {n : Nat} {reads fs : List Fact} {rl : Rule} {rd : Fact} (ok : RuleOk rl) (hr : Rds n reads) (hrd : rd ∈ reads) {ks : List Fact} {q : Fact × Nat} (hq : q ∈ rl.premises.zipIdx) (h : Fl n ks) : Fl n (derAt n reads fs rl rd ks q) := by
  obtain ⟨pat, k⟩ := q
  have hp : rl.premises[k]? = some pat := zip_mem.mp hq
  have po := ok.prem pat (List.mem_of_getElem? hp)
  unfold derAt
  dsimp only
  split
  · rename_i ek
    have plen : pat.points.length = rd.points.length := by rw [po.len, hr.len rd hrd, ek]
    split
    · exact h
    · rename_i vals em
      have gr := match_grown po (List.length_replicate ..) (none_in n _) plen (hr.pts rd hrd) em
      exact spr_fl ok hr (by rw [gr.len, List.length_replicate]) gr.ent (fun p2 e2 => by
        rw [hp] at e2
        rw [← Option.some.inj e2]
        exact gr.cl) h
  · exact h
theorem fold_fl {α : Type} {n : Nat} {step : List Fact → α → List Fact} : ∀ {l : List α} {ks : List Fact}, (∀ ks, ∀ x ∈ l, Fl n ks → Fl n (step ks x)) → Fl n ks → Fl n (l.foldl step ks)
  | [], _, _, h => h
  | x :: l, ks, hs, h => fold_fl (l := l) (fun ks y hy => hs ks y (List.mem_cons_of_mem _ hy)) (hs ks x (List.mem_cons_self ..) h)
theorem der_fl {n : Nat} {fs news : List Fact} (hfl : Fl n fs) (hn : ∀ f ∈ news, f ∈ fs) : Fl n (der n (rdsOf fs) fs news) := by
  have hr := rds_of hfl
  refine fold_fl (fun ks f hf h => ?_) ⟨List.nodup_nil, by simp⟩
  refine fold_fl (fun ks rd hrd h => ?_) h
  refine fold_fl (fun ks rl hrl h => ?_) h
  exact fold_fl (fun ks q hq h => derAt_fl (rule_ok hrl) hr (List.mem_flatMap.mpr ⟨f, hn f hf, hrd⟩) hq h) h
theorem der_new {n : Nat} {fs news : List Fact} (h0 : 0 < n) (hfl : Fl n fs) (hn : ∀ f ∈ news, f ∈ fs) {g : Fact} (hg : g ∈ der n (rdsOf fs) fs news) : g ∉ fs := by
  obtain ⟨_, _, _, _, _, _, h⟩ := (mem_der h0 hfl hn g).mp hg
  exact h
/-! ### sorted facts -/
theorem lex_anti : ∀ {a b : List Nat}, a.length = b.length → isLexLess a b = false → isLexLess b a = false → a = b
  | [], [], _, _, _ => rfl
  | x :: a, y :: b, hl, h1, h2 => by
    simp only [isLexLess, Bool.or_eq_false_iff, decide_eq_false_iff_not, Bool.and_eq_false_iff] at h1 h2
    have e : x = y := by omega
    subst e
    rw [lex_anti (a := a) (b := b) (by simpa using hl) (h1.2.resolve_left fun z => z rfl) (h2.2.resolve_left fun z => z rfl)]
theorem before_anti {n : Nat} {f g : Fact} (hf : Va n f) (hg : Va n g) (h1 : isBefore f g = false) (h2 : isBefore g f = false) : f = g := by
  have e : f.kind = g.kind := by
    unfold isBefore at h1 h2
    simp only [Bool.or_eq_false_iff, decide_eq_false_iff_not] at h1 h2
    omega
  have hl : f.points.length = g.points.length := by rw [hf.nf.len, hg.nf.len, e]
  have z := lex_anti (a := f.kind :: f.points) (b := g.kind :: g.points) (by simp [hl]) h1 h2
  obtain ⟨k, p⟩ := f
  obtain ⟨k', p'⟩ := g
  injection z with z1 z2
  change k = k' at z1
  change p = p' at z2
  rw [z1, z2]
/-- sorted lists of the same facts are the same -/
theorem sorted_one {n : Nat} {fs gs ks : List Fact} (hk : Fl n ks) (h1 : fs.Perm ks) (h2 : fs.Pairwise fun f g => isBefore g f = false) (h3 : gs.Perm ks) (h4 : gs.Pairwise fun f g => isBefore g f = false) : fs = gs :=
  List.Perm.eq_of_pairwise (le := fun f g => isBefore g f = false) (fun a b ha hb h h' => before_anti (hk.va a (h1.mem_iff.mp ha)) (hk.va b (h3.mem_iff.mp hb)) h' h) h2 h4 (h1.trans h3.symm)
/-! ### the rounds -/
/-- from the facts with their rounds and the last round's news, to the end -/
inductive Run (n : Nat) : Nat → List (Fact × Nat) → List Fact → List (Fact × Nat) → Prop
  | stop {r : Nat} {es : List (Fact × Nat)} : Run n r es [] es
  | step {r : Nat} {es es' : List (Fact × Nat)} {news new : List Fact} : news ≠ [] → new.Perm (der n (readsOf es) (es.map (·.1)) news) → (new.Pairwise fun f g => isBefore g f = false) → Run n (r + 1) (es ++ new.map fun f => (f, r + 1)) new es' → Run n r es news es'
end Mi
set_option Elab.async false
set_option maxRecDepth 100000
set_option maxHeartbeats 4000000
namespace G
open PySem PySem.Spec PyProof.Rows L2
open Kh375 (Fact Rule)
theorem ThAt.base {A : Ad} {H0 H1 H : Hp} {t : Addr} {n : Nat} {es : List (Fact × Nat)} (h : ThAt A H0 H t n es) (e : ∀ a, H a ≠ none → H0 a = none → H1 a = none) : ThAt A H1 H t n es := by
  obtain ⟨dx, lo, dr, dk, ds, L, h⟩ := h
  exact ⟨dx, lo, dr, dk, ds, L, h.base e⟩
theorem fl_take {n : Nat} {fs : List Fact} (h : Mi.Fl n fs) (i : Nat) : Mi.Fl n (fs.take i) := ⟨h.nd.sublist (List.take_sublist i fs), fun f hf => h.va f (List.mem_of_mem_take hf)⟩
theorem fl_next {n : Nat} {fs : List Fact} (h : Mi.Fl n fs) {i : Nat} {f : Fact} (e : fs[i]? = some f) : f ∉ fs.take i := by
  intro hm
  have z := (fl_take h (i + 1)).nd
  rw [take_snoc e, List.nodup_append] at z
  exact z.2.2 f hm f (List.mem_singleton.mpr rfl) rfl
theorem map_at {r : Nat} (fs : List Fact) : (fs.map fun f => (f, r)).map (·.1) = fs := by
  rw [List.map_map]
  exact (List.map_congr_left fun _ _ => rfl).trans (List.map_id _)
section
variable {P : Program} {w : World} {K : PySem.W.Frag} {mg : Str → Option Value} {base : Heap} {A : Ad}
/-! theory_of: slots 0 many, 1 hypotheses, 2 theory, 3 fact, 4 news, 5 number -/
abbrev s_theory_of : Stmt := topS 42
abbrev N_theory_of : List Str := ["many", "hypotheses", "theory", "fact", "news", "number"]
theorem sc_theory_of : FnScope N_theory_of ["many", "hypotheses"] (defScope s_theory_of) := C8.fnScope_by (by decide +kernel)
def sp_theory_of (A : Ad) : Sp := fun vs H Q _ => ∃ (n : Nat) (lh : Addr) (hyps : List Fact), vs = [vN n, .ref lh] ∧ Ls H lh hyps ∧ Mi.Fl n hyps ∧ 0 < n ∧ n ≤ 7 ∧
  ∀ H' t es, L2.Same H H' → ThAt A H H' t n es → Mi.Run n 0 (hyps.map fun f => (f, 0)) hyps es → Q (.ref t) H'
theorem c_theory_of (T : Txt K mg A) : C8.Cal P w K mg base 8 "theory_of" (sp_theory_of A) [] := by
  obtain ⟨f, fd, F, b⟩ := T.d_theory_of.ex
  refine C8.cal0 F b .nil sc_theory_of ?_ ?_
  · rintro vs H Q E ⟨n, lh, hyps, rfl, _⟩
    rfl
  · rintro cdv _ outer s H vs Q E hr ⟨n, lh, hyps, rfl, ⟨hus, hlh, hhus⟩, hfl, h0, h7, q⟩
    refine ⟨_, (pss_cons (ps_set (i := 2) sc_theory_of.nd rfl (Or.inl rfl) (C8.pe_mk (c_Theory T) hr (by decide) rfl (pa_cons (pv 0) pa_nil)))
        (pss_cons (ps_for PassesOwn.never rfl (pi_list (pv 1)) (pg_name (i := 3) sc_theory_of.nd rfl (Or.inl rfl))
        (pss_one (ps_expr (C8.pe_c (c_learn T) hr (by decide) rfl (pa_cons (pv 2) (pa_cons (pv 3) (pa_cons pe_int pa_nil)))))))
        (pss_cons (ps_set (i := 4) sc_theory_of.nd rfl (Or.inl rfl) (pe_callTy call_list_of rfl T.n_list (by decide +kernel) (pa_cons (pv 1) pa_nil)))
        (pss_cons (ps_set (i := 5) sc_theory_of.nd rfl (Or.inl rfl) pe_int)
        (pss_cons (ps_while PassesOwn.never (pt_cmpR op_gt (pe_callB call_len_seq rfl T.n_len PySem.boot_len (pa_cons (pv 4) pa_nil)) pe_int (nomark _)) (pss_cons (ps_aug (i := 5) sc_theory_of.nd rfl (Or.inl rfl) pe_int ip_add)
        (pss_cons (ps_set (i := 4) sc_theory_of.nd rfl (Or.inl rfl) (C8.pe_c (c_derived T) hr (by decide) rfl (pa_cons (pv 2) (pa_cons (pv 4) pa_nil))))
        (pss_one (ps_for PassesOwn.never rfl (pi_list (pv 4)) (pg_name (i := 3) sc_theory_of.nd rfl (Or.inl rfl))
        (pss_one (ps_expr (C8.pe_c (c_learn T) hr (by decide) rfl (pa_cons (pv 2) (pa_cons (pv 3) (pa_cons (pv 5) pa_nil)))))))))))
        (pss_one (ps_ret (pv 2)))))))), ?_⟩
    refine ⟨_, rfl, fun t dx nt ndx ndt => ⟨t, dx, n, H, rfl, upd_same, (L2.Same.new ndx).mut nt, nt, fun H1 th1 m1 => ⟨rfl, ?_⟩⟩⟩
    refine ⟨_, rfl, lh, rfl, ⟨hus, SqL.of (m1 _ _ hlh)⟩, for_list (K := K) (a := lh) (xs := hus) (fun i σ Hc => ∃ x3, σ = [some (vN n), some (.ref lh), some (.ref t), x3, none, none] ∧ L2.Same H Hc ∧ ThAt A H Hc t n ((hyps.take i).map fun f => (f, 0)))
      ⟨none, rfl, m1, th1⟩ (fun i σ Hc _ ⟨_, _, z, _⟩ => SqL.of (z _ _ hlh)) ?_ ?_⟩
    · rintro i y σ Hc hy ⟨x3, rfl, sm, th⟩
      obtain ⟨f, hf, hfa⟩ := paired_at hhus hy
      have hfew := (fl_take hfl i).few h7
      refine ⟨_, rfl, _, rfl, t, y, n, 0, f, H, _, rfl, th, sm, sm.tp hfa, (hfl.va f (List.mem_of_getElem? hf)).nf, by rw [List.length_map]; omega, by rw [map_at]; exact fl_next hfl hf, fun H' th' sm' _ => ?_⟩
      refine ⟨_, rfl, sm', ?_⟩
      rw [take_snoc hf, List.map_append]
      exact th'
    · rintro σ Hc ⟨x3, rfl, sm, th⟩
      rw [hhus.length, List.take_length] at th
      refine ⟨_, rfl, lh, _, rfl, .inl (SqL.of (sm _ _ hlh)), fun ln nln => ?_⟩
      (generalize hgen : upd _ _ _ = H2; have m2 := grow_same hgen nln; have t2 := grow_at hgen; clear hgen)
      have th2 := th.same m2
      have S2 := sm.trans m2
      have hlen := hfl.few h7
      refine ⟨fun m σ Hc => ∃ r es news ln x3, σ = [some (vN n), some (.ref lh), some (.ref t), x3, some (.ref ln), some (vN r)] ∧ m = 2 * (841 - es.length) + (if news = [] then 0 else 1) ∧ L2.Same H Hc ∧ ThAt A H Hc t n es ∧ Ls Hc ln news ∧ Mi.Fl n (es.map (·.1)) ∧ (∀ f ∈ news, f ∈ es.map (·.1)) ∧
          ∀ es', Mi.Run n r es news es' → Mi.Run n 0 (hyps.map fun f => (f, 0)) hyps es',
        ⟨_, 0, _, hyps, ln, x3, rfl, rfl, S2, th2, ⟨hus, t2, S2.tps hhus⟩, by rw [map_at]; exact hfl, by rw [map_at]; exact fun _ h => h, fun _ h => h⟩, ?_⟩
      rintro m σ Hc ⟨r, es, news, ln, x3, rfl, rfl, sm, th, ⟨us, hln, hus⟩, hes, hnews, hrun⟩
      have ulen : us.length = news.length := hus.length
      refine ⟨_, rfl, ln, us, rfl, .inl (SqL.of hln), _, _, rfl, rfl, _, rfl, ite2 (fun h => ?_) fun h => ?_⟩
      · have hne : news ≠ [] := fun z => by
          rw [z] at ulen
          rw [ulen] at h
          exact absurd h (by decide)
        have hfew := hes.few h7
        rw [List.length_map] at hfew
        refine ⟨fun σ' H' => ∃ m', m' < 2 * (841 - es.length) + (if news = [] then 0 else 1) ∧ _, fun σ' H' z => z, ?_⟩
        refine ⟨_, rfl, _, _, rfl, rfl, _, rfl, _, rfl, t, ln, n, es, news, H, rfl, th, hes, ⟨us, hln, hus⟩, fun f hf => hes.va f (hnews f hf), h0, h7, fun H1 p new m1 np hp hsort => ?_⟩
        obtain ⟨ws, hws, hwp⟩ := hp
        have hder := hsort.1
        rw [Mi.readsOf_is] at hder
        have dfl : Mi.Fl n new := ⟨hder.symm.nodup (Mi.der_fl hes hnews).nd, fun f hf => (Mi.der_fl hes hnews).va f (hder.mem_iff.mp hf)⟩
        have dnew : ∀ f ∈ new, f ∉ es.map (·.1) := fun f hf => Mi.der_new h0 hes hnews (hder.mem_iff.mp hf)
        have allfl : Mi.Fl n (es.map (·.1) ++ new) := ⟨List.nodup_append.mpr ⟨hes.nd, dfl.nd, fun a ha b hb e => dnew b hb (by rw [← e]; exact ha)⟩, fun f hf => by
          rcases List.mem_append.mp hf with hf | hf
          · exact hes.va f hf
          · exact dfl.va f hf⟩
        have allfew := allfl.few h7
        rw [List.length_append, List.length_map] at allfew
        -- a heap that knows the news and not the theory
        have th1 : ThAt A (upd H p (.lst ws)) H1 t n es := (th.base (H1 := upd H p (.lst ws)) fun a ha z => by
          rw [upd_ne fun e => ha (by rw [e]; exact np)]
          exact z).same m1
        have Hp0 : H p = none := sm.free np
        have S1 : L2.Same (upd H p (.lst ws)) H1 := fun b o z => by
          by_cases c : b = p
          · subst c
            rw [upd_same] at z
            rw [← z]
            exact hws
          · rw [upd_ne c] at z
            exact m1 _ _ (sm _ _ z)
        refine ⟨_, rfl, p, rfl, ⟨ws, SqL.of hws⟩, for_list (K := K) (a := p) (xs := ws) (fun i σ Hc => ∃ x3, σ = [some (vN n), some (.ref lh), some (.ref t), x3, some (.ref p), some (vN (r + 1))] ∧ L2.Same (upd H p (.lst ws)) Hc ∧ Tk H1 Hc ∧ ThAt A (upd H p (.lst ws)) Hc t n (es ++ (new.take i).map fun f => (f, r + 1)))
          ⟨x3, rfl, S1, fun _ _ z => z, by simpa using th1⟩ (fun i σ Hc _ ⟨_, _, z, _⟩ => SqL.of (z _ _ upd_same)) ?_ ?_⟩
        · rintro i y σ H4 hy ⟨x3, rfl, s4, tk4, th4⟩
          obtain ⟨f, hf, hfa⟩ := paired_at hwp hy
          have til : (new.take i).length ≤ new.length := List.length_take_le' _ _
          refine ⟨_, rfl, _, rfl, _, rfl, t, y, n, r + 1, f, _, _, rfl, th4, s4, tk4.tp hfa, (dfl.va f (List.mem_of_getElem? hf)).nf, ?_, ?_, fun H5 th5 s5 tk5 => ?_⟩
          · rw [List.length_append, List.length_map]
            omega
          · rw [List.map_append, map_at, List.mem_append]
            rintro (z | z)
            · exact dnew f (List.mem_of_getElem? hf) z
            · exact fl_next dfl hf z
          · refine ⟨_, rfl, s5, tk4.trans tk5, ?_⟩
            rw [take_snoc hf, List.map_append, ← List.append_assoc]
            exact th5
        · rintro σ H4 ⟨x3, rfl, s4, tk4, th4⟩
          have e : ws.length = new.length := hwp.length
          rw [e, List.take_length] at th4
          refine ⟨2 * (841 - (es ++ new.map fun f => (f, r + 1)).length) + (if new = [] then 0 else 1), ?_, r + 1, es ++ new.map (fun f => (f, r + 1)), new, p, x3, rfl, rfl, fun b o z => s4 b o (by rw [upd_ne fun c => by rw [c, Hp0] at z; cases z]; exact z), th4.base fun a _ z => ?_, ⟨ws, s4 _ _ upd_same, tk4.tps hwp⟩, ?_, fun f hf => ?_, fun es' hr => ?_⟩
          · rw [if_neg hne, List.length_append, List.length_map]
            cases new with
            | nil => simp
            | cons a l =>
              rw [if_neg (fun z => nomatch z)]
              rw [List.length_cons] at allfew ⊢
              omega
          · by_cases c : a = p
            · rw [c]
              exact Hp0
            · rw [upd_ne c] at z
              exact z
          · rw [List.map_append, map_at]
            exact allfl
          · rw [List.map_append, map_at, List.mem_append]
            exact .inr hf
          · exact hrun es' (Mi.Run.step hne hsort.1 hsort.2 hr)
      · have hnil : news = [] := by
          cases news with
          | nil => rfl
          | cons a l =>
            refine absurd ?_ h
            rw [ulen]
            exact decide_eq_true (by rw [List.length_cons]; omega)
        rw [hnil] at hrun
        exact ⟨_, rfl, q Hc t es sm th (hrun es Mi.Run.stop)⟩
end
end G
/-! the specification's tables, assignments, entries. -/
namespace Mi
open Kh375
/-! ### tables -/
theorem idx3 (k a b c : Nat) : indexOf ⟨k, [a, b, c]⟩ = ((k * 7 + a) * 7 + b) * 7 + c := rfl
theorem idx4 (k a b c d : Nat) : indexOf ⟨k, [a, b, c, d]⟩ = (((k * 7 + a) * 7 + b) * 7 + c) * 7 + d := rfl
theorem va_cases {n : Nat} (hn : n ≤ 7) {f : Fact} (h : Va n f) : (∃ k a b c, f = ⟨k, [a, b, c]⟩ ∧ (k = 0 ∨ k = 4 ∨ k = 6) ∧ a < 7 ∧ b < 7 ∧ c < 7) ∨ (∃ k a b c d, f = ⟨k, [a, b, c, d]⟩ ∧ (k = 1 ∨ k = 2 ∨ k = 3 ∨ k = 5) ∧ a < 7 ∧ b < 7 ∧ c < 7 ∧ d < 7) := by
  have hp : ∀ p ∈ f.points, p < 7 := fun p hp => Nat.lt_of_lt_of_le (h.pts p hp) hn
  rcases h.nf.cases with ⟨a, b, c, rfl | rfl, _⟩ | ⟨a, b, c, d, rfl, _⟩ | ⟨m, a, b, rfl, _⟩ | ⟨a, b, c, d, rfl | rfl | rfl, _⟩
  · exact .inl ⟨_, a, b, c, rfl, .inl rfl, hp a (by simp), hp b (by simp), hp c (by simp)⟩
  · exact .inl ⟨_, a, b, c, rfl, .inr (.inr rfl), hp a (by simp), hp b (by simp), hp c (by simp)⟩
  · exact .inr ⟨_, a, b, c, d, rfl, .inr (.inr (.inr rfl)), hp a (by simp), hp b (by simp), hp c (by simp), hp d (by simp)⟩
  · exact .inl ⟨_, m, a, b, rfl, .inr (.inl rfl), hp m (by simp), hp a (by simp), hp b (by simp)⟩
  · exact .inr ⟨_, a, b, c, d, rfl, .inl rfl, hp a (by simp), hp b (by simp), hp c (by simp), hp d (by simp)⟩
  · exact .inr ⟨_, a, b, c, d, rfl, .inr (.inl rfl), hp a (by simp), hp b (by simp), hp c (by simp), hp d (by simp)⟩
  · exact .inr ⟨_, a, b, c, d, rfl, .inr (.inr (.inl rfl)), hp a (by simp), hp b (by simp), hp c (by simp), hp d (by simp)⟩
theorem idx_lt {n : Nat} (hn : n ≤ 7) {f : Fact} (h : Va n f) : indexOf f < 16807 := by
  rcases va_cases hn h with ⟨k, a, b, c, rfl, hk, _⟩ | ⟨k, a, b, c, d, rfl, hk, _⟩
  · rw [idx3]; omega
  · rw [idx4]; omega
theorem idx_inj {n : Nat} (hn : n ≤ 7) {f g : Fact} (hf : Va n f) (hg : Va n g) (e : indexOf f = indexOf g) : f = g := by
  rcases va_cases hn hf with ⟨k, a, b, c, rfl, hk, h1⟩ | ⟨k, a, b, c, d, rfl, hk, h1⟩ <;> rcases va_cases hn hg with ⟨k', a', b', c', rfl, hk', h1'⟩ | ⟨k', a', b', c', d', rfl, hk', h1'⟩
  · rw [idx3, idx3] at e
    obtain ⟨rfl, rfl, rfl, rfl⟩ : k = k' ∧ a = a' ∧ b = b' ∧ c = c' := by omega
    rfl
  · rw [idx3, idx4] at e
    omega
  · rw [idx3, idx4] at e
    omega
  · rw [idx4, idx4] at e
    obtain ⟨rfl, rfl, rfl, rfl, rfl⟩ : k = k' ∧ a = a' ∧ b = b' ∧ c = c' ∧ d = d' := by omega
    rfl
/-- a table that holds these facts -/
structure Tab (n : Nat) (t : FactTable) (fs : List Fact) : Prop where
  size : t.size = 16807
  has : ∀ g, Va n g → hasFact t g = decide (g ∈ fs)
theorem tab_nil (n : Nat) : Tab n (Array.replicate (7 * maxPoints ^ 4) false) [] := by
  refine ⟨by rw [Array.size_replicate]; rfl, fun g _ => ?_⟩
  unfold hasFact
  rw [Array.getD_eq_getD_getElem?, Array.getElem?_replicate]
  split <;> simp
theorem tab_put {n : Nat} (hn : n ≤ 7) {t : FactTable} {fs : List Fact} (h : Tab n t fs) {f : Fact} (hf : Va n f) : Tab n (insertFact t f) (fs ++ [f]) := by
  refine ⟨by unfold insertFact; rw [Array.size_setIfInBounds, h.size], fun g hg => ?_⟩
  have hg' := h.has g hg
  unfold hasFact insertFact at *
  have hl : indexOf f < t.size := by rw [h.size]; exact idx_lt hn hf
  rw [Array.getD_eq_getD_getElem?, Array.getElem?_setIfInBounds]
  by_cases c : indexOf f = indexOf g
  · rw [if_pos c, if_pos hl]
    have e := idx_inj hn hf hg c
    subst e
    simp
  · rw [if_neg c, ← Array.getD_eq_getD_getElem?, hg']
    have ne : ¬ g = f := fun z => c (by rw [z])
    simp [ne]
theorem tab_go {n : Nat} (hn : n ≤ 7) : ∀ {fs : List Fact} {t : FactTable} {gs : List Fact}, (∀ f ∈ fs, Va n f) → Tab n t gs → Tab n (fs.foldl insertFact t) (gs ++ fs)
  | [], t, gs, _, h => by rw [List.append_nil]; exact h
  | f :: fs, t, gs, hv, h => by
    have := tab_go hn (fs := fs) (fun g hg => hv g (List.mem_cons_of_mem _ hg)) (tab_put hn h (hv f (List.mem_cons_self ..)))
    rw [List.append_assoc] at this
    exact this
theorem tab_of {n : Nat} (hn : n ≤ 7) {fs : List Fact} (hv : ∀ f ∈ fs, Va n f) : Tab n (tableOf fs) fs := tab_go hn hv (tab_nil n)
/-- what is known: its normal form is among the facts -/
theorem known_iff {n : Nat} {t : FactTable} {fs : List Fact} (h : Tab n t fs) {f : Fact} (hk : f.kind < 7) (hp : ∀ p ∈ f.points, p < n) : isKnown t f = true ↔ ∃ g ∈ fs, normalize f = some g := by
  unfold isKnown
  cases e : normalize f with
  | none => simp
  | some g =>
    show hasFact t g = true ↔ _
    rw [h.has g (va_norm hk hp e), decide_eq_true_eq]
    constructor
    · exact fun z => ⟨g, z, rfl⟩
    · rintro ⟨g', hg', e'⟩
      rw [Option.some.inj e']
      exact hg'
/-! ### assignments -/
theorem sub_ext {f : Fact} {a b : List Nat} (h : ∀ i ∈ f.points, i < a.length) (e : ∃ s, b = a ++ s) : substitute b f = substitute a f := by
  obtain ⟨s, rfl⟩ := e
  unfold substitute
  congr 1
  refine List.map_congr_left fun i hi => ?_
  rw [List.getD_eq_getElem?_getD, List.getD_eq_getElem?_getD, List.getElem?_append_left (h i hi)]
theorem mem_assign {n : Nat} {t : FactTable} {r : Rule} (hv : ∀ f ∈ r.premises, ∀ i ∈ f.points, i < r.variableCount) : ∀ (left : Nat) (asd x : List Nat), asd.length + left = r.variableCount →
    (x ∈ assignments n t r left asd ↔ ∃ s, x = asd ++ s ∧ s.length = left ∧ (∀ p ∈ s, p < n) ∧ ∀ f ∈ r.premises, (∃ i ∈ f.points, asd.length ≤ i) → isKnown t (substitute x f) = true)
  | 0, asd, x, hl => by
    show x ∈ [asd] ↔ _
    rw [List.mem_singleton]
    constructor
    · rintro rfl
      exact ⟨[], (List.append_nil _).symm, rfl, by simp, fun f hf ⟨i, hi, h⟩ => by have := hv f hf i hi; omega⟩
    · rintro ⟨s, rfl, hs, _⟩
      rw [List.eq_nil_of_length_eq_zero hs, List.append_nil]
  | left + 1, asd, x, hl => by
    unfold assignments
    rw [List.mem_flatMap]
    simp only [List.mem_range]
    have hlen : ∀ y, (asd ++ [y]).length = asd.length + 1 := fun y => by rw [List.length_append]; rfl
    constructor
    · rintro ⟨y, hy, hx⟩
      split at hx
      · rename_i hc
        rw [List.all_eq_true] at hc
        obtain ⟨s, rfl, hs, hsn, hk⟩ := (mem_assign hv left (asd ++ [y]) x (by rw [hlen]; omega)).mp hx
        refine ⟨y :: s, by rw [List.append_assoc]; rfl, by rw [List.length_cons, hs], fun p hp => ?_, fun f hf ⟨i, hi, h⟩ => ?_⟩
        · rcases List.mem_cons.mp hp with rfl | hp
          · exact hy
          · exact hsn p hp
        · by_cases c : ∃ j ∈ f.points, (asd ++ [y]).length ≤ j
          · exact hk f hf c
          · have call : ∀ j ∈ f.points, j < (asd ++ [y]).length := fun j hj => by
              by_cases d : (asd ++ [y]).length ≤ j
              · exact absurd ⟨j, hj, d⟩ c
              · omega
            have z := hc f (by
              rw [List.mem_filter]
              refine ⟨hf, ?_⟩
              rw [Bool.and_eq_true, List.all_eq_true]
              refine ⟨fun j hj => decide_eq_true (call j hj), ?_⟩
              rw [List.contains_iff_mem]
              have := call i hi
              rw [hlen] at this
              have e : i = asd.length := by omega
              rw [← e]
              exact hi)
            rw [sub_ext call ⟨s, rfl⟩]
            exact z
      · cases hx
    · rintro ⟨s, rfl, hs, hsn, hk⟩
      match s, hs with
      | y :: s, hs =>
        refine ⟨y, hsn y (List.mem_cons_self ..), ?_⟩
        have hsplit : asd ++ y :: s = (asd ++ [y]) ++ s := by rw [List.append_assoc]; rfl
        rw [if_pos ?_]
        · refine (mem_assign hv left (asd ++ [y]) _ (by rw [hlen]; omega)).mpr ⟨s, hsplit, by simpa using hs, fun p hp => hsn p (List.mem_cons_of_mem _ hp), fun f hf ⟨i, hi, h⟩ => ?_⟩
          rw [hlen] at h
          exact hk f hf ⟨i, hi, by omega⟩
        · rw [List.all_eq_true]
          intro f hf
          rw [List.mem_filter, Bool.and_eq_true, List.all_eq_true, List.contains_iff_mem] at hf
          rw [← sub_ext (b := asd ++ y :: s) (fun i hi => of_decide_eq_true (hf.2.1 i hi)) ⟨s, hsplit⟩]
          exact hk f hf.1 ⟨asd.length, hf.2.2, Nat.le_refl _⟩
theorem lex_mid {y z : Nat} {s s' : List Nat} (h : y < z) : ∀ asd : List Nat, isLexLess (asd ++ ([y] ++ s)) (asd ++ ([z] ++ s')) = true
  | [] => by simp [isLexLess, h]
  | w :: asd => by simpa [isLexLess] using lex_mid h asd
/-- in the order of the points -/
theorem assign_up {n : Nat} {t : FactTable} {r : Rule} : ∀ (left : Nat) (asd : List Nat), (assignments n t r left asd).Pairwise (fun a b => isLexLess a b = true) ∧ ∀ x ∈ assignments n t r left asd, ∃ s, x = asd ++ s ∧ s.length = left
  | 0, asd => ⟨List.pairwise_singleton _ _, fun x hx => ⟨[], by rw [List.append_nil]; exact List.mem_singleton.mp hx, rfl⟩⟩
  | left + 1, asd => by
    unfold assignments
    constructor
    · rw [List.pairwise_flatMap]
      refine ⟨fun y _ => ?_, ?_⟩
      · dsimp only
        split
        · exact (assign_up left (asd ++ [y])).1
        · exact List.Pairwise.nil
      · refine List.pairwise_lt_range.imp fun {y z} hyz a ha b hb => ?_
        dsimp only at ha hb
        split at ha
        · split at hb
          · obtain ⟨s, rfl, _⟩ := (assign_up left (asd ++ [y])).2 a ha
            obtain ⟨s', rfl, _⟩ := (assign_up left (asd ++ [z])).2 b hb
            rw [List.append_assoc, List.append_assoc]
            exact lex_mid hyz asd
          · cases hb
        · cases ha
    · intro x hx
      rw [List.mem_flatMap] at hx
      obtain ⟨y, _, hx⟩ := hx
      dsimp only at hx
      split at hx
      · obtain ⟨s, rfl, hs⟩ := (assign_up left (asd ++ [y])).2 x hx
        exact ⟨y :: s, by rw [List.append_assoc]; rfl, by rw [List.length_cons, hs]⟩
      · cases hx
end Mi
/-! the specification's rounds are the program's. -/
namespace Mi
open Kh375
def cand (n : Nat) (t : FactTable) (round : Nat) : List Entry := rules.zipIdx.flatMap fun x => (assignments n t x.1 x.1.variableCount []).flatMap fun pts => x.1.conclusions.filterMap fun c => (normalize (substitute pts c)).map fun g => ⟨g, round, some x.2, (x.1.premises.map (substitute pts)).filterMap normalize⟩
def put1 (s : FactTable × List Entry) (e : Entry) : FactTable × List Entry := if hasFact s.1 e.fact then s else (insertFact s.1 e.fact, e :: s.2)
theorem new_cand (n : Nat) (entries : List Entry) (round : Nat) : newEntries n entries round = ((cand n (tableOf (entries.map fun e => e.fact)) round).foldl put1 (tableOf (entries.map fun e => e.fact), [])).2.reverse := by
  unfold newEntries cand
  dsimp only
  rw [List.foldl_flatMap]
  congr 3
  funext s x
  rw [List.foldl_flatMap]
  congr 1
  funext s pts
  rw [List.foldl_filterMap]
  congr 1
  funext s c
  cases normalize (substitute pts c) with
  | none => rfl
  | some g => rfl
/-- the first of each fact that is not among fs -/
def pick : List Fact → List Entry → List Entry
  | _, [] => []
  | fs, e :: l => if e.fact ∈ fs then pick fs l else e :: pick (fs ++ [e.fact]) l
theorem fold_pick {n : Nat} (hn : n ≤ 7) : ∀ {l : List Entry} {fs : List Fact} {t : FactTable} {acc : List Entry}, (∀ e ∈ l, Va n e.fact) → Tab n t fs → (l.foldl put1 (t, acc)).2 = (pick fs l).reverse ++ acc
  | [], fs, t, acc, _, _ => rfl
  | e :: l, fs, t, acc, hv, ht => by
    have hve := hv e (List.mem_cons_self ..)
    have hvl : ∀ e ∈ l, Va n e.fact := fun x hx => hv x (List.mem_cons_of_mem _ hx)
    rw [List.foldl_cons]
    unfold put1 pick
    dsimp only
    rw [ht.has _ hve]
    by_cases c : e.fact ∈ fs
    · rw [if_pos (decide_eq_true c), if_pos c]
      exact fold_pick hn hvl ht
    · rw [if_neg (by rw [decide_eq_false c]; exact Bool.false_ne_true), if_neg c]
      show (l.foldl put1 _).2 = _
      rw [fold_pick hn hvl (tab_put hn ht hve), List.reverse_cons, List.append_assoc]
      rfl
theorem pick_mem : ∀ {l : List Entry} {fs : List Fact}, ∀ e ∈ pick fs l, e ∈ l ∧ e.fact ∉ fs
  | [], _, e, h => by cases h
  | a :: l, fs, e, h => by
    unfold pick at h
    split at h
    · have := pick_mem e h
      exact ⟨List.mem_cons_of_mem _ this.1, this.2⟩
    · rename_i c
      rcases List.mem_cons.mp h with rfl | h
      · exact ⟨List.mem_cons_self .., c⟩
      · have := pick_mem e h
        exact ⟨List.mem_cons_of_mem _ this.1, fun z => this.2 (List.mem_append_left _ z)⟩
theorem pick_nd : ∀ {l : List Entry} {fs : List Fact}, ((pick fs l).map fun e => e.fact).Nodup
  | [], _ => List.nodup_nil
  | a :: l, fs => by
    unfold pick
    split
    · exact pick_nd
    · rw [List.map_cons, List.nodup_cons]
      refine ⟨fun h => ?_, pick_nd⟩
      obtain ⟨e, he, e2⟩ := List.mem_map.mp h
      exact (pick_mem e he).2 (by rw [e2]; exact List.mem_append_right _ (List.mem_singleton.mpr rfl))
theorem findF_neg {a : Entry} {l : List Entry} {g : Fact} (h : ¬ a.fact = g) : (a :: l).find? (fun e => e.fact == g) = l.find? fun e => e.fact == g := List.find?_cons_of_neg (p := fun e : Entry => e.fact == g) (by simpa using h)
theorem findF_pos {a : Entry} {l : List Entry} : (a :: l).find? (fun e => e.fact == a.fact) = some a := List.find?_cons_of_pos (p := fun e : Entry => e.fact == a.fact) (by simp)
theorem findF_fact {l : List Entry} {g : Fact} {e : Entry} (h : l.find? (fun e => e.fact == g) = some e) : e.fact = g := eq_of_beq (List.find?_some (p := fun e : Entry => e.fact == g) h)
theorem pick_find (g : Fact) : ∀ {l : List Entry} {fs : List Fact}, (pick fs l).find? (fun e => e.fact == g) = if g ∈ fs then none else l.find? fun e => e.fact == g
  | [], fs => by
    unfold pick
    simp
  | a :: l, fs => by
    unfold pick
    by_cases c : a.fact ∈ fs
    · rw [if_pos c, pick_find g]
      by_cases d : g ∈ fs
      · rw [if_pos d, if_pos d]
      · rw [if_neg d, if_neg d, findF_neg fun z => d (by rw [← z]; exact c)]
    · rw [if_neg c]
      by_cases e : a.fact = g
      · subst e
        rw [if_neg c, findF_pos, findF_pos]
      · rw [findF_neg e, pick_find g, findF_neg e]
        have : g ∈ fs ++ [a.fact] ↔ g ∈ fs := by
          rw [List.mem_append, List.mem_singleton]
          exact ⟨fun z => z.resolve_right fun z => e z.symm, .inl⟩
        simp only [this]
theorem rules_prem : ∀ rl ∈ rules, rl.premises ≠ [] := by decide +kernel
theorem cand_mem {n : Nat} {t : FactTable} {round : Nat} {e : Entry} : e ∈ cand n t round ↔ ∃ rl k, rules[k]? = some rl ∧ ∃ x ∈ assignments n t rl rl.variableCount [], ∃ c ∈ rl.conclusions, normalize (substitute x c) = some e.fact ∧ e.round = round ∧ e.rule = some k ∧ e.premises = (rl.premises.map (substitute x)).filterMap normalize := by
  unfold cand
  simp only [List.mem_flatMap, List.mem_filterMap, Option.map_eq_some_iff]
  constructor
  · rintro ⟨⟨rl, k⟩, hk, x, hx, c, hc, g, hg, rfl⟩
    exact ⟨rl, k, List.mem_zipIdx_iff_getElem?.mp hk, x, hx, c, hc, hg, rfl, rfl, rfl⟩
  · rintro ⟨rl, k, hk, x, hx, c, hc, hg, h1, h2, h3⟩
    refine ⟨(rl, k), List.mem_zipIdx_iff_getElem?.mpr hk, x, hx, c, hc, e.fact, hg, ?_⟩
    obtain ⟨f, r, ru, pr⟩ := e
    dsimp only at h1 h2 h3 ⊢
    rw [h1, h2, h3]
/-- the assignments of a rule, all premises known -/
theorem fit_iff {n : Nat} {fs : List Fact} (hfl : ∀ f ∈ fs, Va n f) {t : FactTable} (ht : Tab n t fs) {rl : Rule} (ok : RuleOk rl) {x : List Nat} : x ∈ assignments n t rl rl.variableCount [] ↔ Fit n (rdsOf fs) rl x := by
  rw [mem_assign (fun f hf i hi => (ok.prem f hf).vars i hi) rl.variableCount [] x (by simp)]
  have hmem : x ∈ asg n (List.replicate rl.variableCount none) ↔ x.length = rl.variableCount ∧ ∀ p ∈ x, p < n := by
    rw [mem_asg, List.length_replicate]
    refine and_congr_right fun hl => ⟨fun h p hp => ?_, fun h j hj => ?_⟩
    · obtain ⟨j, hj⟩ := List.getElem?_of_mem hp
      obtain ⟨jl, e⟩ := List.getElem?_eq_some_iff.mp hj
      have z := h j (by omega)
      rw [List.getD_eq_getElem?_getD, List.getElem?_replicate, if_pos (by omega), List.getD_eq_getElem?_getD, hj] at z
      exact z
    · rw [List.getD_eq_getElem?_getD, List.getElem?_replicate, if_pos hj, List.getD_eq_getElem?_getD, List.getElem?_eq_getElem (by omega)]
      exact h _ (List.getElem_mem _)
  have hk : x.length = rl.variableCount → (∀ p ∈ x, p < n) → ∀ f ∈ rl.premises, (isKnown t (substitute x f) = true ↔ substitute x f ∈ rdsOf fs) := fun hl hx f hf => by
    have po := ok.prem f hf
    have hp : ∀ p ∈ (substitute x f).points, p < n := fun p hp => by
      obtain ⟨i, hi, rfl⟩ := List.mem_map.mp hp
      have : i < x.length := by rw [hl]; exact po.vars i hi
      rw [List.getD_eq_getElem?_getD, List.getElem?_eq_getElem this]
      exact hx _ (List.getElem_mem _)
    rw [known_iff ht (f := substitute x f) po.kind hp, mem_rds hfl (g := substitute x f) po.kind]
  constructor
  · rintro ⟨s, rfl, hs, hsn, h⟩
    refine ⟨hmem.mpr ⟨hs, hsn⟩, fun p hp => (hk hs hsn p hp).mp (h p hp ?_)⟩
    have := (ok.prem p hp).least
    match e : p.points, this with
    | i :: _, _ => exact ⟨i, List.mem_cons_self .., Nat.zero_le _⟩
  · intro h
    obtain ⟨hl, hx⟩ := hmem.mp h.mem
    exact ⟨x, rfl, hl, hx, fun f hf _ => (hk hl hx f hf).mpr (h.prem f hf)⟩
theorem fit_lt {n : Nat} {reads : List Fact} {rl : Rule} {x : List Nat} (h : Fit n reads rl x) : x.length = rl.variableCount ∧ ∀ i, i < rl.variableCount → x.getD i 0 < n := by
  have := mem_asg.mp h.mem
  rw [List.length_replicate] at this
  refine ⟨this.1, fun i hi => ?_⟩
  have z := this.2 i hi
  rw [List.getD_eq_getElem?_getD, List.getElem?_replicate, if_pos hi] at z
  exact z
theorem fit_va {n : Nat} {reads : List Fact} {rl : Rule} {x : List Nat} (ok : RuleOk rl) (h : Fit n reads rl x) {c g : Fact} (hc : c ∈ rl.conclusions) (e : normalize (substitute x c) = some g) : Va n g := by
  refine va_norm (g := substitute x c) (ok.conc c hc).kind (fun p hp => ?_) e
  obtain ⟨i, hi, rfl⟩ := List.mem_map.mp hp
  exact (fit_lt h).2 i ((ok.conc c hc).vars i hi)
theorem cand_va {n : Nat} {fs : List Fact} (hfl : ∀ f ∈ fs, Va n f) {t : FactTable} (ht : Tab n t fs) {round : Nat} : ∀ e ∈ cand n t round, Va n e.fact := fun e he => by
  obtain ⟨rl, k, hk, x, hx, c, hc, hg, _⟩ := cand_mem.mp he
  have ok := rule_ok (List.mem_of_getElem? hk)
  exact fit_va ok ((fit_iff hfl ht ok).mp hx) hc hg
theorem new_pick {n : Nat} (hn : n ≤ 7) {entries : List Entry} (hfl : Fl n (entries.map fun e => e.fact)) (round : Nat) : newEntries n entries round = pick (entries.map fun e => e.fact) (cand n (tableOf (entries.map fun e => e.fact)) round) := by
  have ht := tab_of hn hfl.va
  rw [new_cand, fold_pick hn (cand_va hfl.va ht) ht, List.append_nil, List.reverse_reverse]
/-- nothing new follows from the facts without the news -/
def SInv (n : Nat) (fs news : List Fact) : Prop := ∀ rl ∈ rules, ∀ x, Fit n (rdsOf fs) rl x → (∀ p ∈ rl.premises, ∀ f ∈ news, substitute x p ∉ readings f) → ∀ c ∈ rl.conclusions, ∀ g, normalize (substitute x c) = some g → g ∈ fs
/-- the new facts -/
theorem new_mem {n : Nat} (hn : n ≤ 7) (h0 : 0 < n) {entries : List Entry} (hfl : Fl n (entries.map fun e => e.fact)) {news : List Fact} (hs : ∀ f ∈ news, f ∈ entries.map fun e => e.fact) (inv : SInv n (entries.map fun e => e.fact) news) (round : Nat) (g : Fact) :
    g ∈ ((newEntries n entries round).map fun e => e.fact) ↔ g ∈ der n (rdsOf (entries.map fun e => e.fact)) (entries.map fun e => e.fact) news := by
  have ht := tab_of hn hfl.va
  rw [new_pick hn hfl, mem_der h0 hfl hs]
  generalize eF : (entries.map fun e => e.fact) = fs at *
  rw [List.mem_map]
  constructor
  · rintro ⟨e, he, rfl⟩
    obtain ⟨hc, hnf⟩ := pick_mem e he
    obtain ⟨rl, k, hk, x, hx, c, hcc, hg, _⟩ := cand_mem.mp hc
    have hrl := List.mem_of_getElem? hk
    have fit := (fit_iff hfl.va ht (rule_ok hrl)).mp hx
    refine ⟨rl, hrl, x, fit, ?_, ⟨c, hcc, hg⟩, hnf⟩
    refine Classical.byContradiction fun hno => hnf (inv rl hrl x fit (fun p hp f hf z => hno ⟨p, hp, f, hf, z⟩) c hcc _ hg)
  · rintro ⟨rl, hrl, x, fit, _, ⟨c, hcc, hg⟩, hnf⟩
    obtain ⟨k, hk⟩ := List.getElem?_of_mem hrl
    have hx := (fit_iff hfl.va ht (rule_ok hrl)).mpr fit
    have hc : (⟨g, round, some k, (rl.premises.map (substitute x)).filterMap normalize⟩ : Entry) ∈ cand n (tableOf fs) round := cand_mem.mpr ⟨rl, k, hk, x, hx, c, hcc, hg, rfl, rfl, rfl⟩
    have hf := pick_find g (l := cand n (tableOf fs) round) (fs := fs)
    rw [if_neg hnf] at hf
    have some : ((cand n (tableOf fs) round).find? fun e => e.fact == g).isSome = true := by
      rw [List.find?_isSome]
      exact ⟨_, hc, by simp⟩
    rw [← hf] at some
    obtain ⟨e, he⟩ := Option.isSome_iff_exists.mp some
    exact ⟨e, List.mem_of_find?_eq_some he, findF_fact he⟩
/-! ### sorted entries -/
theorem insE_perm (e : Entry) : ∀ l : List Entry, (insertEntry e l).Perm (e :: l)
  | [] => .refl _
  | d :: r => by
    unfold insertEntry
    split
    · exact .refl _
    · exact ((insE_perm e r).cons d).trans (.swap e d r)
theorem sortE_perm : ∀ l : List Entry, (sortEntries l).Perm l
  | [] => .refl _
  | e :: l => (insE_perm e (sortEntries l)).trans ((sortE_perm l).cons e)
theorem lex_trans : ∀ {a b c : List Nat}, isLexLess a b = true → isLexLess b c = true → isLexLess a c = true
  | [], _, _, h, _ => by cases h
  | _ :: _, [], _, h, _ => by cases h
  | _ :: _, _ :: _, [], _, h => by cases h
  | x :: a, y :: b, z :: c, h1, h2 => by
    simp only [isLexLess, Bool.or_eq_true, decide_eq_true_eq, Bool.and_eq_true] at h1 h2 ⊢
    rcases h1 with h1 | ⟨rfl, h1⟩ <;> rcases h2 with h2 | ⟨rfl, h2⟩
    · exact .inl (by omega)
    · exact .inl h1
    · exact .inl h2
    · exact .inr ⟨rfl, lex_trans h1 h2⟩
theorem before_eq (f g : Fact) : isBefore f g = isLexLess (f.kind :: f.points) (g.kind :: g.points) := rfl
theorem lex_asym {a b : List Nat} (h : isLexLess a b = true) : isLexLess b a = false := by
  rw [Bool.eq_false_iff]
  intro z
  have := lex_trans h z
  rw [lex_irrefl] at this
  cases this
/-- not before, over NF facts of n points: transitive -/
theorem insE_up {n : Nat} (e : Entry) (he : Va n e.fact) : ∀ {l : List Entry}, (∀ d ∈ l, Va n d.fact) → l.Pairwise (fun a b => isBefore b.fact a.fact = false) → (insertEntry e l).Pairwise fun a b => isBefore b.fact a.fact = false
  | [], _, _ => List.pairwise_singleton _ _
  | d :: r, hv, h => by
    rw [List.pairwise_cons] at h
    unfold insertEntry
    split
    · rename_i c
      rw [List.pairwise_cons, List.pairwise_cons]
      refine ⟨fun z hz => ?_, h⟩
      rcases List.mem_cons.mp hz with rfl | hz
      · rw [before_eq] at c ⊢
        exact lex_asym c
      · rw [Bool.eq_false_iff]
        intro q
        rw [before_eq] at c q
        have := h.1 z hz
        rw [before_eq, lex_trans q c] at this
        cases this
    · rename_i c
      rw [List.pairwise_cons]
      refine ⟨fun z hz => ?_, insE_up e he (fun x hx => hv x (List.mem_cons_of_mem _ hx)) h.2⟩
      rcases List.mem_cons.mp ((insE_perm e r).mem_iff.mp hz) with rfl | hz
      · exact Bool.eq_false_iff.mpr c
      · exact h.1 z hz
theorem sortE_up {n : Nat} : ∀ {l : List Entry}, (∀ d ∈ l, Va n d.fact) → (sortEntries l).Pairwise fun a b => isBefore b.fact a.fact = false
  | [], _ => List.Pairwise.nil
  | e :: l, hv => insE_up e (hv e (List.mem_cons_self ..)) (fun d hd => hv d (List.mem_cons_of_mem _ ((sortE_perm l).mem_iff.mp hd))) (sortE_up fun d hd => hv d (List.mem_cons_of_mem _ hd))
/-! ### the rounds -/
/-- a fact's entry says the first reason -/
def EntOk (n : Nat) (entries : List Entry) (e : Entry) : Prop := (e.round = 0 ∧ e.rule = none ∧ e.premises = []) ∨ (0 < e.round ∧ (cand n (tableOf ((entries.filter fun d => decide (d.round < e.round)).map fun d => d.fact)) e.round).find? (fun d => d.fact == e.fact) = some e)
structure EInv (n r : Nat) (entries : List Entry) : Prop where
  rounds : ∀ e ∈ entries, e.round ≤ r
  ok : ∀ e ∈ entries, EntOk n entries e
  fl : Fl n (entries.map fun e => e.fact)
def pr (e : Entry) : Fact × Nat := (e.fact, e.round)
theorem pr_facts (entries : List Entry) : (entries.map pr).map (·.1) = entries.map fun e => e.fact := by
  rw [List.map_map]
  rfl
theorem run_deduce {n : Nat} (hn : n ≤ 7) (h0 : 0 < n) {r : Nat} {es es' : List (Fact × Nat)} {news : List Fact} (run : Run n r es news es') : ∀ {entries : List Entry} {fuel : Nat}, entries.map pr = es → EInv n r entries → (∀ f ∈ news, f ∈ es.map (·.1)) → SInv n (es.map (·.1)) news → 841 ≤ fuel + es.length →
    (deduce n fuel (r + 1) entries).map pr = es' ∧ ∃ r', EInv n r' (deduce n fuel (r + 1) entries) := by
  induction run with
  | stop =>
    rename_i r es
    intro entries fuel he inv hs si hf
    cases fuel with
    | zero => exact ⟨he, r, inv⟩
    | succ fuel =>
      have e0 : newEntries n entries (r + 1) = [] := by
        have z := new_mem hn h0 inv.fl (news := []) (by simp) (by rw [← pr_facts, he]; exact si) (r + 1)
        cases h : newEntries n entries (r + 1) with
        | nil => rfl
        | cons a l =>
          rw [h] at z
          have := (z a.fact).mp (List.mem_cons_self ..)
          cases this
      unfold deduce
      rw [e0]
      exact ⟨he, r, inv⟩
  | step hne hperm hsort hrun ih =>
    rename_i r es es' news new
    intro entries fuel he inv hs si hf
    have hfs : es.map (·.1) = entries.map fun e => e.fact := by rw [← he, pr_facts]
    have hlen : es.length = entries.length := by rw [← he, List.length_map]
    cases fuel with
    | zero =>
      have := inv.fl.few hn
      rw [List.length_map] at this
      omega
    | succ fuel =>
      rw [readsOf_is, hfs] at hperm
      rw [hfs] at hs si
      have hm := new_mem hn h0 inv.fl hs si (r + 1)
      have dfl := der_fl (n := n) inv.fl hs
      generalize eA : newEntries n entries (r + 1) = added at hm
      have hnd : (added.map fun e => e.fact).Nodup := by
        rw [← eA, new_pick hn inv.fl]
        exact pick_nd
      have hpa : (added.map fun e => e.fact).Perm (der n (rdsOf (entries.map fun e => e.fact)) (entries.map fun e => e.fact) news) := (List.perm_ext_iff_of_nodup hnd dfl.nd).mpr hm
      have hva : ∀ e ∈ added, Va n e.fact := fun e he => dfl.va _ (hpa.mem_iff.mp (List.mem_map.mpr ⟨e, he, rfl⟩))
      have hsorted : ((sortEntries added).map fun e => e.fact) = new := by
        refine sorted_one dfl (((sortE_perm added).map fun e => e.fact).trans hpa) ?_ hperm hsort
        rw [List.pairwise_map]
        exact sortE_up hva
      have hcand : ∀ e ∈ added, e.round = r + 1 ∧ (cand n (tableOf (entries.map fun e => e.fact)) (r + 1)).find? (fun d => d.fact == e.fact) = some e := fun e hea => by
        have h2 : e ∈ pick (entries.map fun e => e.fact) (cand n (tableOf (entries.map fun e => e.fact)) (r + 1)) := by
          rw [← new_pick hn inv.fl, eA]
          exact hea
        obtain ⟨hc, hnf⟩ := pick_mem e h2
        obtain ⟨_, _, _, _, _, _, _, _, hr, _⟩ := cand_mem.mp hc
        refine ⟨hr, ?_⟩
        have hp := pick_find e.fact (l := cand n (tableOf (entries.map fun e => e.fact)) (r + 1)) (fs := entries.map fun e => e.fact)
        rw [if_neg hnf, ← new_pick hn inv.fl, eA] at hp
        rw [← hp]
        obtain ⟨d, hd⟩ := Option.isSome_iff_exists.mp (show (added.find? fun d => d.fact == e.fact).isSome = true by rw [List.find?_isSome]; exact ⟨e, hea, by simp⟩)
        rw [hd]
        have hdm := List.mem_of_find?_eq_some hd
        have hde : d.fact = e.fact := eq_of_beq (List.find?_some (p := fun d : Entry => d.fact == e.fact) hd)
        congr 1
        obtain ⟨i, hi⟩ := List.getElem?_of_mem hdm
        obtain ⟨j, hj⟩ := List.getElem?_of_mem hea
        have hi' : (added.map fun e => e.fact)[i]? = some d.fact := by rw [List.getElem?_map, hi]; rfl
        have hj' : (added.map fun e => e.fact)[j]? = some d.fact := by rw [List.getElem?_map, hj, hde]; rfl
        have : i = j := (List.getElem?_inj (List.getElem?_eq_some_iff.mp hi').1 hnd).mp (hi'.trans hj'.symm)
        subst this
        rw [hi] at hj
        exact Option.some.inj hj
      have hrs : ∀ e ∈ sortEntries added, e.round = r + 1 := fun e hes => (hcand e ((sortE_perm added).mem_iff.mp hes)).1
      have hmap : (sortEntries added).map pr = new.map fun f => (f, r + 1) := by
        rw [← hsorted, List.map_map]
        refine List.map_congr_left fun e hes => ?_
        show (e.fact, e.round) = (e.fact, r + 1)
        rw [hrs e hes]
      unfold deduce
      rw [eA]
      dsimp only
      by_cases c : added = []
      · rw [if_pos c]
        have hn0 : new = [] := by rw [← hsorted, c]; rfl
        subst hn0
        rw [List.map_nil, List.append_nil] at hrun
        cases hrun with
        | stop => exact ⟨he, r, inv⟩
        | step h _ _ _ => exact absurd rfl h
      · rw [if_neg c]
        have hnd2 := hnd
        have dnew : ∀ f ∈ new, f ∉ entries.map fun e => e.fact := fun f hf => der_new h0 inv.fl hs (hperm.mem_iff.mp hf)
        have nva : ∀ f ∈ new, Va n f := fun f hf => dfl.va f (hperm.mem_iff.mp hf)
        have hal : (entries ++ sortEntries added).map (fun e => e.fact) = (entries.map fun e => e.fact) ++ new := by rw [List.map_append, hsorted]
        have fl2 : Fl n ((entries ++ sortEntries added).map fun e => e.fact) := by
          rw [hal]
          refine ⟨List.nodup_append.mpr ⟨inv.fl.nd, hperm.symm.nodup dfl.nd, fun a ha b hb e => dnew b hb (by rw [← e]; exact ha)⟩, fun f hf => ?_⟩
          rcases List.mem_append.mp hf with hf | hf
          · exact inv.fl.va f hf
          · exact nva f hf
        have filt : ∀ k, k ≤ r + 1 → (entries ++ sortEntries added).filter (fun d => decide (d.round < k)) = entries.filter fun d => decide (d.round < k) := fun k hk => by
          have z : (sortEntries added).filter (fun d => decide (d.round < k)) = [] := List.filter_eq_nil_iff.mpr fun e hes => by
            rw [hrs e hes, decide_eq_true_eq]
            omega
          rw [List.filter_append, z, List.append_nil]
        refine ih (entries := entries ++ sortEntries added) (fuel := fuel) ?_ ⟨fun e hem => ?_, fun e hem => ?_, fl2⟩ ?_ ?_ ?_
        · rw [List.map_append, he, hmap]
        · rcases List.mem_append.mp hem with hem | hem
          · have := inv.rounds e hem
            omega
          · exact Nat.le_of_eq (hrs e hem)
        · rcases List.mem_append.mp hem with hem | hem
          · have hr := inv.rounds e hem
            rcases inv.ok e hem with z | ⟨z1, z2⟩
            · exact .inl z
            · refine .inr ⟨z1, ?_⟩
              rw [filt e.round (by omega)]
              exact z2
          · have hr := hrs e hem
            refine .inr ⟨by omega, ?_⟩
            rw [hr, filt (r + 1) (Nat.le_refl _), List.filter_eq_self.mpr (fun d hd => decide_eq_true (by have := inv.rounds d hd; omega))]
            exact (hcand e ((sortE_perm added).mem_iff.mp hem)).2
        · intro f hf
          rw [List.map_append, List.map_map, List.mem_append]
          right
          rw [List.mem_map]
          exact ⟨f, hf, rfl⟩
        · have e2 : (es ++ new.map fun f => (f, r + 1)).map (·.1) = (entries.map fun e => e.fact) ++ new := by
            rw [List.map_append, hfs, List.map_map]
            congr 1
            exact (List.map_congr_left fun _ _ => rfl).trans (List.map_id _)
          rw [e2]
          intro rl hrl x fit hno cc hc g hg
          rw [List.mem_append]
          have fit' : Fit n (rdsOf (entries.map fun e => e.fact)) rl x := ⟨fit.mem, fun p hp => by
            have z := fit.prem p hp
            unfold rdsOf at z
            rw [List.flatMap_append, List.mem_append] at z
            rcases z with z | z
            · exact z
            · obtain ⟨f, hf, z⟩ := List.mem_flatMap.mp z
              exact absurd z (hno p hp f hf)⟩
          by_cases gm : g ∈ entries.map fun e => e.fact
          · exact .inl gm
          · refine .inr (hperm.mem_iff.mpr ((mem_der h0 inv.fl hs g).mpr ⟨rl, hrl, x, fit', ?_, ⟨cc, hc, hg⟩, gm⟩))
            exact Classical.byContradiction fun hno2 => gm (si rl hrl x fit' (fun p hp f hf z => hno2 ⟨p, hp, f, hf, z⟩) cc hc g hg)
        · have hpos : 0 < added.length := List.length_pos_iff.mpr c
          have : new.length = added.length := by rw [← hsorted, List.length_map, (sortE_perm added).length_eq]
          rw [List.length_append, List.length_map]
          omega
/-- the program's theory is the specification's -/
theorem run_spec {n : Nat} (hn : n ≤ 7) (h0 : 0 < n) {hyps : List Fact} (hfl : Fl n hyps) {es : List (Fact × Nat)} (run : Run n 0 (hyps.map fun f => (f, 0)) hyps es) :
    es = (knownEntries ⟨n, hyps⟩).map pr ∧ ∃ r, EInv n r (knownEntries ⟨n, hyps⟩) := by
  have e1 : (hyps.map fun f => (f, 0)).map (·.1) = hyps := by
    rw [List.map_map]
    exact (List.map_congr_left fun _ _ => rfl).trans (List.map_id _)
  have e2 : (initialEntries hyps).map (fun e => e.fact) = hyps := by
    unfold initialEntries
    rw [List.map_map]
    exact (List.map_congr_left fun _ _ => rfl).trans (List.map_id _)
  obtain ⟨h1, h2⟩ := run_deduce hn h0 run (entries := initialEntries hyps) (fuel := maxRounds) (by unfold initialEntries; rw [List.map_map]; rfl) ⟨fun e he => by
      obtain ⟨f, _, rfl⟩ := List.mem_map.mp he
      exact Nat.le_refl _, fun e he => by
      obtain ⟨f, _, rfl⟩ := List.mem_map.mp he
      exact .inl ⟨rfl, rfl, rfl⟩, by rw [e2]; exact hfl⟩ (by rw [e1]; exact fun _ h => h) (by
      rw [e1]
      intro rl hrl x fit hno
      exfalso
      have hp := rules_prem rl hrl
      match e : rl.premises, hp with
      | p :: _, _ =>
        have hpm : p ∈ rl.premises := by rw [e]; exact List.mem_cons_self ..
        obtain ⟨f, hf, z⟩ := List.mem_flatMap.mp (fit.prem p hpm)
        exact hno p hpm f hf z) (by show 841 ≤ 900 + _; omega)
  exact ⟨h1.symm, h2⟩
end Mi
/-! the first assignment, reasons. -/
namespace Mi
open Kh375
/-- the least of a set of lists of a length -/
structure Least (m : Nat) (S : List Nat → Prop) (o : Option (List Nat)) : Prop where
  none : o = none → ∀ x, ¬ S x
  some : ∀ x, o = some x → S x ∧ ∀ y, S y → y = x ∨ isLexLess x y = true
  len : ∀ x, S x → x.length = m
theorem Least.one {m : Nat} {S : List Nat → Prop} {a b : Option (List Nat)} (ha : Least m S a) (hb : Least m S b) : a = b := by
  cases a with
  | none =>
    cases b with
    | none => rfl
    | some y => exact absurd (hb.some y rfl).1 (ha.none rfl y)
  | some x =>
    cases b with
    | none => exact absurd (ha.some x rfl).1 (hb.none rfl x)
    | some y =>
      rcases (ha.some x rfl).2 y (hb.some y rfl).1 with e | h
      · rw [e]
      · rcases (hb.some y rfl).2 x (ha.some x rfl).1 with e | h2
        · rw [e]
        · rw [lex_asym h] at h2
          cases h2
theorem Least.congr {m : Nat} {S T : List Nat → Prop} {o : Option (List Nat)} (h : Least m S o) (e : ∀ x, T x ↔ S x) : Least m T o :=
  ⟨fun z x t => h.none z x ((e x).mp t), fun x z => ⟨(e x).mpr (h.some x z).1, fun y t => (h.some x z).2 y ((e y).mp t)⟩, fun x t => h.len x ((e x).mp t)⟩
theorem find_least {m : Nat} (p : List Nat → Bool) : ∀ {l : List (List Nat)}, (∀ x ∈ l, x.length = m) → (l.Pairwise fun a b => isLexLess a b = true) → Least m (fun x => x ∈ l ∧ p x = true) (l.find? p)
  | [], _, _ => ⟨fun _ _ h => (nomatch h.1), fun _ h => (nomatch h), fun _ h => (nomatch h.1)⟩
  | a :: l, hl, hp => by
    rw [List.pairwise_cons] at hp
    have ih := find_least p (l := l) (fun x hx => hl x (List.mem_cons_of_mem _ hx)) hp.2
    by_cases c : p a = true
    · rw [List.find?_cons_of_pos c]
      refine ⟨fun h => (by cases h), fun x h => ?_, fun x h => hl x h.1⟩
      obtain rfl := Option.some.inj h
      refine ⟨⟨List.mem_cons_self .., c⟩, fun y hy => ?_⟩
      rcases List.mem_cons.mp hy.1 with rfl | h
      · exact .inl rfl
      · exact .inr (hp.1 y h)
    · rw [List.find?_cons_of_neg c]
      refine ih.congr fun x => ⟨fun h => ⟨?_, h.2⟩, fun h => ⟨List.mem_cons_of_mem _ h.1, h.2⟩⟩
      rcases List.mem_cons.mp h.1 with rfl | h2
      · exact absurd h.2 c
      · exact h2
theorem lesser_least {m : Nat} {S T : List Nat → Prop} {a b : Option (List Nat)} (ha : Least m S a) (hb : Least m T b) : Least m (fun x => S x ∨ T x) (lesser a b) := by
  have hlen : ∀ x, S x ∨ T x → x.length = m := fun x h => h.elim (ha.len x) (hb.len x)
  cases a with
  | none => exact hb.congr fun x => ⟨fun h => h.resolve_left (ha.none rfl x), .inr⟩
  | some x =>
    cases b with
    | none => exact ha.congr fun y => ⟨fun h => h.resolve_right (hb.none rfl y), .inl⟩
    | some y =>
      obtain ⟨hx, hx2⟩ := ha.some x rfl
      obtain ⟨hy, hy2⟩ := hb.some y rfl
      unfold lesser
      refine ⟨fun h => (by cases h), fun z h => ?_, hlen⟩
      have e := Option.some.inj h
      split at e
      · rename_i c
        subst e
        refine ⟨.inr hy, fun w hw => ?_⟩
        rcases hw with hw | hw
        · rcases hx2 w hw with rfl | h3
          · exact .inr c
          · exact .inr (lex_trans c h3)
        · exact hy2 w hw
      · rename_i c
        subst e
        refine ⟨.inl hx, fun w hw => ?_⟩
        have hc : isLexLess y x = false := Bool.eq_false_iff.mpr c
        have hxy : y = x ∨ isLexLess x y = true := by
          by_cases d : isLexLess x y = true
          · exact .inr d
          · exact .inl (lex_anti (by rw [ha.len x hx, hb.len y hy]) hc (Bool.eq_false_iff.mpr d))
        rcases hw with hw | hw
        · exact hx2 w hw
        · rcases hxy with rfl | h4
          · exact hy2 w hw
          · rcases hy2 w hw with rfl | h3
            · exact .inr h4
            · exact .inr (lex_trans h4 h3)
theorem least_none (m : Nat) : Least m (fun _ => False) none := ⟨fun _ _ h => h, fun x h => (by cases h), fun _ h => h.elim⟩
/-- a fold of lesser -/
theorem fold_least {α : Type} {m : Nat} {step : Option (List Nat) → α → Option (List Nat)} {Pr : α → List Nat → Prop} : ∀ {l : List α} {S : List Nat → Prop} {o : Option (List Nat)}, (∀ S o, ∀ a ∈ l, Least m S o → Least m (fun x => S x ∨ Pr a x) (step o a)) → Least m S o → Least m (fun x => S x ∨ ∃ a ∈ l, Pr a x) (l.foldl step o)
  | [], S, o, _, h => h.congr fun x => by simp
  | a :: l, S, o, hs, h => by
    refine (fold_least (l := l) (fun S o b hb => hs S o b (List.mem_cons_of_mem _ hb)) (hs S o a (List.mem_cons_self ..) h)).congr fun x => ?_
    constructor
    · rintro (z | ⟨b, hb, z⟩)
      · exact .inl (.inl z)
      · rcases List.mem_cons.mp hb with rfl | hb
        · exact .inl (.inr z)
        · exact .inr ⟨b, hb, z⟩
    · rintro ((z | z) | ⟨b, hb, z⟩)
      · exact .inl z
      · exact .inr ⟨a, List.mem_cons_self .., z⟩
      · exact .inr ⟨b, List.mem_cons_of_mem _ hb, z⟩
theorem allIn_iff {rl : Rule} {given : List Fact} {x : List Nat} : allIn rl given x = true ↔ ∀ p ∈ rl.premises, substitute x p ∈ given := by
  unfold allIn
  simp
theorem given_least {n : Nat} {rl : Rule} {vals : Row} {given : List Fact} : Least vals.length (fun x => x ∈ asg n vals ∧ ∀ p ∈ rl.premises, substitute x p ∈ given) (firstGiven n rl vals given) := by
  refine (find_least (allIn rl given) (fun x hx => asg_row_len hx) (asg_up n vals)).congr fun x => ?_
  rw [allIn_iff]
theorem try_least {n : Nat} {rl : Rule} {f : Fact} {given : List Fact} (ok : RuleOk rl) (hf : Va n f) {S : List Nat → Prop} {o : Option (List Nat)} {pat rd : Fact} (hp : pat ∈ rl.conclusions) (hr : rd ∈ readings f) (h : Least rl.variableCount S o) :
    Least rl.variableCount (fun x => S x ∨ (Fit n given rl x ∧ substitute x pat = rd)) (tryOne n rl f given o pat rd) := by
  have po := ok.conc pat hp
  have rs := reading_same hf.nf hr
  have hm : (List.replicate rl.variableCount (none : Option Nat)).length = rl.variableCount := List.length_replicate ..
  unfold tryOne
  by_cases ek : pat.kind = f.kind
  · rw [if_pos ek]
    have hk : rd.kind = pat.kind := by rw [rs.1, ek]
    have hl : pat.points.length = rd.points.length := by rw [po.len, rs.2, hf.nf.len, ek]
    have hpt := read_pts hf hr
    cases em : matchP pat rd (List.replicate rl.variableCount none) with
    | none =>
      refine h.congr fun x => ⟨fun z => z.resolve_right fun z => match_none po hm hk hl hpt em x z.1.mem z.2, .inl⟩
    | some vals =>
      have vl : vals.length = rl.variableCount := by rw [matchGo_len em, hm]
      have g := given_least (n := n) (rl := rl) (vals := vals) (given := given)
      rw [vl] at g
      refine (lesser_least h g).congr fun x => or_congr_right ?_
      rw [match_mem po hm hk hl hpt em x]
      exact ⟨fun z => ⟨⟨z.1.mem, z.2⟩, z.1.prem⟩, fun z => ⟨⟨z.1.1, z.2⟩, z.1.2⟩⟩
  · rw [if_neg ek]
    refine h.congr fun x => ⟨fun z => z.resolve_right fun z => ek ?_, .inl⟩
    have := congrArg Fact.kind z.2
    rw [rs.1] at this
    exact this
/-- the first assignment that gives a fact -/
theorem first_least {n : Nat} {rl : Rule} {f : Fact} {given : List Fact} (ok : RuleOk rl) (hf : Va n f) : Least rl.variableCount (fun x => Fit n given rl x ∧ ∃ c ∈ rl.conclusions, normalize (substitute x c) = some f) (firstAsg n rl f given) := by
  have z := fold_least (m := rl.variableCount) (step := tryPat n rl f given) (Pr := fun c x => ∃ rd ∈ readings f, Fit n given rl x ∧ substitute x c = rd) (l := rl.conclusions) (S := fun _ => False) (o := none) (fun S o c hc h => fold_least (fun S o rd hr h => try_least ok hf hc hr h) h) (least_none _)
  refine z.congr fun x => ?_
  constructor
  · rintro ⟨fit, c, hc, e⟩
    exact .inr ⟨c, hc, _, (read_mem hf.nf).mpr ⟨e, (ok.conc c hc).kind⟩, fit, rfl⟩
  · rintro (h | ⟨c, hc, rd, hr, fit, rfl⟩)
    · exact h.elim
    · exact ⟨fit, c, hc, ((read_mem hf.nf).mp hr).1⟩
def hits (rl : Rule) (f : Fact) (x : List Nat) : Bool := rl.conclusions.any fun g => normalize (substitute x g) == some f
theorem hits_iff {rl : Rule} {f : Fact} {x : List Nat} : hits rl f x = true ↔ ∃ c ∈ rl.conclusions, normalize (substitute x c) = some f := by
  unfold hits
  simp
theorem first_is {n : Nat} {fs : List Fact} (hfl : ∀ f ∈ fs, Va n f) {t : FactTable} (ht : Tab n t fs) {rl : Rule} {f : Fact} (ok : RuleOk rl) (hf : Va n f) : firstAsg n rl f (rdsOf fs) = (assignments n t rl rl.variableCount []).find? (hits rl f) := by
  refine (first_least ok hf).one ?_
  refine (find_least (hits rl f) (fun x hx => ?_) (assign_up rl.variableCount []).1).congr fun x => ?_
  · obtain ⟨s, rfl, hs⟩ := (assign_up rl.variableCount []).2 x hx
    exact hs
  · rw [fit_iff hfl ht ok, hits_iff]
/-- the premises of a reason -/
def premsOf (rl : Rule) (x : List Nat) : List Fact := (rl.premises.map (substitute x)).filterMap normalize
def reasonOf (n : Nat) (given : List Fact) (f : Fact) : Option (Nat × List Fact) := rules.zipIdx.findSome? fun q => (firstAsg n q.1 f given).map fun x => (q.2, premsOf q.1 x)
theorem find_concl {rl : Rule} {x : List Nat} {f : Fact} {r : Nat} {k : Option Nat} {ps : List Fact} : ∀ cs : List Fact, (cs.filterMap fun c => (normalize (substitute x c)).map fun g => (⟨g, r, k, ps⟩ : Entry)).find? (fun e => e.fact == f) = if (cs.any fun g => normalize (substitute x g) == some f) = true then some ⟨f, r, k, ps⟩ else none
  | [] => rfl
  | c :: cs => by
    have ih := find_concl (rl := rl) (x := x) (f := f) (r := r) (k := k) (ps := ps) cs
    rw [List.any_cons]
    cases e : normalize (substitute x c) with
    | none =>
      rw [List.filterMap_cons_none (by rw [e]; rfl), ih]
      simp
    | some g =>
      rw [List.filterMap_cons_some (b := ⟨g, r, k, ps⟩) (by rw [e]; rfl)]
      by_cases d : g = f
      · subst d
        rw [List.find?_cons_of_pos (by simp)]
        simp
      · rw [findF_neg d, ih]
        have : (some g == some f) = false := by simp [d]
        rw [this, Bool.false_or]
theorem some_find {α β : Type} {p : α → Bool} {g : α → β} : ∀ l : List α, l.findSome? (fun a => if p a = true then some (g a) else none) = (l.find? p).map g
  | [] => rfl
  | a :: l => by
    by_cases c : p a = true
    · rw [List.findSome?_cons, if_pos c, List.find?_cons_of_pos c]
      rfl
    · rw [List.findSome?_cons, if_neg c, List.find?_cons_of_neg c]
      exact some_find l
theorem cand_find {n : Nat} {fs : List Fact} (hfl : ∀ f ∈ fs, Va n f) {t : FactTable} (ht : Tab n t fs) {r : Nat} {f : Fact} (hf : Va n f) : (cand n t r).find? (fun e => e.fact == f) = (reasonOf n (rdsOf fs) f).map fun q => ⟨f, r, some q.1, q.2⟩ := by
  unfold cand reasonOf
  rw [List.find?_flatMap, List.map_findSome?]
  have congrS : ∀ {α β : Type} {g1 g2 : α → Option β} (l : List α), (∀ a ∈ l, g1 a = g2 a) → l.findSome? g1 = l.findSome? g2 := by
    intro α β g1 g2 l
    induction l with
    | nil => exact fun _ => rfl
    | cons a l ih =>
      intro h
      rw [List.findSome?_cons, List.findSome?_cons, h a (List.mem_cons_self ..), ih fun b hb => h b (List.mem_cons_of_mem _ hb)]
  refine congrS _ fun q hq => ?_
  have hrl : q.1 ∈ rules := List.mem_of_getElem? (List.mem_zipIdx_iff_getElem?.mp hq)
  rw [List.find?_flatMap]
  rw [congrS _ fun x _ => find_concl (rl := q.1) q.1.conclusions]
  rw [show (fun a => if (q.1.conclusions.any fun g => normalize (substitute a g) == some f) = true then some (⟨f, r, some q.2, (q.1.premises.map (substitute a)).filterMap normalize⟩ : Entry) else none) = fun a => if hits q.1 f a = true then some (⟨f, r, some q.2, premsOf q.1 a⟩ : Entry) else none from rfl]
  show _ = Option.map _ (Option.map _ (firstAsg n q.1 f (rdsOf fs)))
  rw [some_find, first_is hfl ht (rule_ok hrl) hf, Option.map_map]
  rfl
theorem follows_is {n : Nat} (hn : n ≤ 7) {fs : List Fact} (hfl : ∀ f ∈ fs, Va n f) {f : Fact} (hf : Va n f) : (rules.any fun rl => (firstAsg n rl f (rdsOf fs)).isSome) = followsByRule n fs f := by
  unfold followsByRule
  rw [Bool.eq_iff_iff, List.any_eq_true, List.any_eq_true]
  constructor
  · rintro ⟨rl, hrl, h⟩
    refine ⟨rl, hrl, ?_⟩
    rw [first_is hfl (tab_of hn hfl) (rule_ok hrl) hf, List.find?_isSome] at h
    exact List.any_eq_true.mpr h
  · rintro ⟨rl, hrl, h⟩
    refine ⟨rl, hrl, ?_⟩
    rw [first_is hfl (tab_of hn hfl) (rule_ok hrl) hf, List.find?_isSome]
    exact List.any_eq_true.mp h
end Mi
/-! reasons, proofs, needed hypotheses. -/
namespace Mi
open Kh375
def priorF (es : List (Fact × Nat)) (r : Nat) : List Fact := (es.filter fun e => decide (e.2 < r)).map (·.1)
def reasonAt (n : Nat) (es : List (Fact × Nat)) (f : Fact) (r : Nat) : Option (Nat × List Fact) := reasonOf n (rdsOf (priorF es r)) f
theorem prior_pr (entries : List Entry) (r : Nat) : priorF (entries.map pr) r = (entries.filter fun d => decide (d.round < r)).map fun d => d.fact := by
  unfold priorF
  rw [List.filter_map, List.map_map]
  rfl
theorem prior_sub {es : List (Fact × Nat)} {r : Nat} {f : Fact} (h : f ∈ priorF es r) : f ∈ es.map (·.1) := by
  obtain ⟨e, he, rfl⟩ := List.mem_map.mp h
  exact List.mem_map.mpr ⟨e, (List.mem_filter.mp he).1, rfl⟩
theorem prior_fl {n : Nat} {es : List (Fact × Nat)} (h : Fl n (es.map (·.1))) (r : Nat) : Fl n (priorF es r) :=
  ⟨h.nd.sublist ((List.filter_sublist (p := fun e : Fact × Nat => decide (e.2 < r)) (l := es)).map _), fun f hf => h.va f (prior_sub hf)⟩
theorem find_self : ∀ {entries : List Entry}, (entries.map fun e => e.fact).Nodup → ∀ e ∈ entries, findEntry entries e.fact = some e
  | [], _, e, h => by cases h
  | a :: l, hn, e, h => by
    rw [List.map_cons, List.nodup_cons] at hn
    unfold findEntry
    rcases List.mem_cons.mp h with rfl | h
    · exact findF_pos
    · rw [findF_neg fun z => hn.1 (List.mem_map.mpr ⟨e, h, z.symm⟩)]
      exact find_self hn.2 e h
theorem find_entry {entries : List Entry} {g : Fact} {e : Entry} (h : findEntry entries g = some e) : e ∈ entries ∧ e.fact = g := ⟨List.mem_of_find?_eq_some h, findF_fact h⟩
theorem find_in {entries : List Entry} {g : Fact} (h : g ∈ entries.map fun e => e.fact) : ∃ e, findEntry entries g = some e := by
  obtain ⟨e, he, rfl⟩ := List.mem_map.mp h
  exact Option.isSome_iff_exists.mp (by
    unfold findEntry
    rw [List.find?_isSome]
    exact ⟨e, he, by simp⟩)
theorem contains_iff {entries : List Entry} {g : Fact} : contains entries g = true ↔ g ∈ entries.map fun e => e.fact := by
  unfold contains
  rw [List.any_eq_true, List.mem_map]
  constructor
  · rintro ⟨e, he, z⟩; exact ⟨e, he, eq_of_beq z⟩
  · rintro ⟨e, he, rfl⟩; exact ⟨e, he, by simp⟩
theorem find_none {entries : List Entry} {g : Fact} (h : g ∉ entries.map fun e => e.fact) : findEntry entries g = none := by
  unfold findEntry
  rw [List.find?_eq_none]
  intro e he z
  exact h (List.mem_map.mpr ⟨e, he, eq_of_beq z⟩)
theorem roundIn_pr (entries : List Entry) (g : Fact) : roundIn (entries.map pr) g = (findEntry entries g).map fun e => e.round := by
  unfold roundIn findEntry
  rw [List.find?_map, Option.map_map]
  rfl
/-- what a reason says -/
theorem reason_fit {n : Nat} {fs : List Fact} {f : Fact} (hf : Va n f) {k : Nat} {ps : List Fact} (h : reasonOf n (rdsOf fs) f = some (k, ps)) : ∃ rl x, rules[k]? = some rl ∧ Fit n (rdsOf fs) rl x ∧ (∃ c ∈ rl.conclusions, normalize (substitute x c) = some f) ∧ ps = premsOf rl x := by
  unfold reasonOf at h
  obtain ⟨⟨rl, k'⟩, hq, h⟩ := List.exists_of_findSome?_eq_some h
  have hk := List.mem_zipIdx_iff_getElem?.mp hq
  obtain ⟨x, hx, e⟩ := Option.map_eq_some_iff.mp h
  have hl := (first_least (given := rdsOf fs) (rule_ok (List.mem_of_getElem? hk)) hf).some x hx
  injection e with e1 e2
  dsimp only at hk e1 e2
  subst e1
  exact ⟨rl, x, hk, hl.1.1, hl.1.2, e2.symm⟩
theorem prem_norm {n : Nat} {fs : List Fact} (hfl : ∀ f ∈ fs, Va n f) {rl : Rule} (ok : RuleOk rl) {x : List Nat} (fit : Fit n (rdsOf fs) rl x) {p : Fact} (hp : p ∈ rl.premises) : ∃ g ∈ fs, normalize (substitute x p) = some g :=
  (mem_rds hfl (g := substitute x p) (ok.prem p hp).kind).mp (fit.prem p hp)
theorem prems_in {n : Nat} {fs : List Fact} (hfl : ∀ f ∈ fs, Va n f) {rl : Rule} (ok : RuleOk rl) {x : List Nat} (fit : Fit n (rdsOf fs) rl x) : ∀ g ∈ premsOf rl x, g ∈ fs := fun g hg => by
  unfold premsOf at hg
  obtain ⟨q, hq, e⟩ := List.mem_filterMap.mp hg
  obtain ⟨p, hp, rfl⟩ := List.mem_map.mp hq
  obtain ⟨g', hg', e'⟩ := prem_norm hfl ok fit hp
  rw [e] at e'
  rw [Option.some.inj e']
  exact hg'
/-- the entries' reasons -/
theorem ent_reason {n r : Nat} (hn : n ≤ 7) {entries : List Entry} (inv : EInv n r entries) {e : Entry} (he : e ∈ entries) (h0 : 0 < e.round) : ∃ k, e.rule = some k ∧ reasonAt n (entries.map pr) e.fact e.round = some (k, e.premises) := by
  rcases inv.ok e he with ⟨z, _⟩ | ⟨_, z⟩
  · omega
  · have hfl : Fl n ((entries.filter fun d => decide (d.round < e.round)).map fun d => d.fact) := by
      rw [← prior_pr]
      exact prior_fl (by rw [pr_facts]; exact inv.fl) _
    rw [cand_find hfl.va (tab_of hn hfl.va) (inv.fl.va e.fact (List.mem_map.mpr ⟨e, he, rfl⟩))] at z
    obtain ⟨⟨k, ps⟩, h1, h2⟩ := Option.map_eq_some_iff.mp z
    refine ⟨k, by rw [← h2], ?_⟩
    unfold reasonAt
    rw [prior_pr, h1, ← h2]
theorem ent_zero {n r : Nat} {entries : List Entry} (inv : EInv n r entries) {e : Entry} (he : e ∈ entries) (h0 : e.round = 0) : e.rule = none ∧ e.premises = [] := by
  rcases inv.ok e he with ⟨_, z⟩ | ⟨z, _⟩
  · exact z
  · omega
/-! ### proofs -/
inductive Reach (P : Fact → List Fact) (f : Fact) : Fact → Prop
  | refl : Reach P f f
  | step {g p : Fact} : Reach P f g → p ∈ P g → Reach P f p
def premE (entries : List Entry) (f : Fact) : List Fact := ((findEntry entries f).map fun e => e.premises).getD []
theorem eraseDups_go : ∀ (k : Nat) (l : List Fact), l.length ≤ k → l.eraseDups.Nodup
  | _, [], _ => by simp
  | 0, _ :: _, h => by simp at h
  | k + 1, a :: l, h => by
    rw [List.eraseDups_cons, List.nodup_cons]
    refine ⟨fun z => ?_, eraseDups_go k _ (Nat.le_trans (List.length_filter_le _ _) (by simpa using h))⟩
    rw [List.mem_eraseDups, List.mem_filter] at z
    simp at z
theorem eraseDups_nd {l : List Fact} : l.eraseDups.Nodup := eraseDups_go _ l (Nat.le_refl _)
theorem with_go {entries : List Entry} {n : Nat} (hn : n ≤ 7) (hfl : Fl n (entries.map fun e => e.fact)) (hp : ∀ g ∈ entries.map fun e => e.fact, ∀ p ∈ premE entries g, p ∈ entries.map fun e => e.fact) {f : Fact} :
    ∀ (fuel : Nat) {facts : List Fact}, facts.Nodup → (∀ g ∈ facts, g ∈ entries.map fun e => e.fact) → (∀ g ∈ facts, Reach (premE entries) f g) → f ∈ facts → 841 ≤ fuel + facts.length → ∀ g, g ∈ withPremises entries fuel facts ↔ Reach (premE entries) f g
  | 0, facts, hnd, hs, _, _, hlen => by
    have := sub_len hnd hs
    have := hfl.few hn
    omega
  | fuel + 1, facts, hnd, hs, hr, hf, hlen => by
    intro g
    unfold withPremises
    generalize eA : ((facts.flatMap fun f => ((findEntry entries f).map fun e => e.premises).getD []).filter fun g => facts.contains g == false).eraseDups = added
    have hm : ∀ p, p ∈ added ↔ (∃ q ∈ facts, p ∈ premE entries q) ∧ p ∉ facts := fun p => by
      rw [← eA, List.mem_eraseDups, List.mem_filter, List.mem_flatMap]
      refine and_congr Iff.rfl ?_
      simp
    dsimp only
    by_cases c : added = []
    · rw [if_pos c]
      refine ⟨hr g, fun h => ?_⟩
      induction h with
      | refl => exact hf
      | step _ hq ih =>
        rename_i q p _
        refine Classical.byContradiction fun hno => ?_
        have := (hm p).mpr ⟨⟨q, ih, hq⟩, hno⟩
        rw [c] at this
        cases this
    · rw [if_neg c]
      have hpos : 0 < added.length := List.length_pos_iff.mpr c
      refine with_go hn hfl hp fuel (facts := facts ++ added) (List.nodup_append.mpr ⟨hnd, by rw [← eA]; exact eraseDups_nd, fun a ha b hb e => ((hm b).mp hb).2 (by rw [← e]; exact ha)⟩) (fun g hg => ?_) (fun g hg => ?_) (List.mem_append_left _ hf) (by rw [List.length_append]; omega) g
      · rcases List.mem_append.mp hg with hg | hg
        · exact hs g hg
        · obtain ⟨⟨q, hq, hpq⟩, _⟩ := (hm g).mp hg
          exact hp q (hs q hq) g hpq
      · rcases List.mem_append.mp hg with hg | hg
        · exact hr g hg
        · obtain ⟨⟨q, hq, hpq⟩, _⟩ := (hm g).mp hg
          exact .step (hr q hq) hpq
theorem premE_in {n r : Nat} (hn : n ≤ 7) {entries : List Entry} (inv : EInv n r entries) : ∀ g ∈ entries.map (fun e => e.fact), ∀ p ∈ premE entries g, ∃ e ∈ entries, e.fact = p ∧ ∃ d ∈ entries, d.fact = g ∧ e.round < d.round := by
  intro g hg p hp
  obtain ⟨d, hd⟩ := find_in hg
  obtain ⟨hdm, hdf⟩ := find_entry hd
  unfold premE at hp
  rw [hd] at hp
  change p ∈ d.premises at hp
  by_cases h0 : d.round = 0
  · rw [(ent_zero inv hdm h0).2] at hp
    cases hp
  · obtain ⟨k, hk, hr⟩ := ent_reason hn inv hdm (by omega)
    have va := inv.fl.va d.fact (List.mem_map.mpr ⟨d, hdm, rfl⟩)
    obtain ⟨rl, x, hrl, fit, _, hps⟩ := reason_fit va hr
    have pfl := prior_fl (n := n) (es := entries.map pr) (by rw [pr_facts]; exact inv.fl) d.round
    rw [hps] at hp
    have hin := prems_in pfl.va (rule_ok (List.mem_of_getElem? hrl)) fit p hp
    rw [prior_pr] at hin
    obtain ⟨e, he, rfl⟩ := List.mem_map.mp hin
    rw [List.mem_filter] at he
    exact ⟨e, he.1, rfl, d, hdm, hdf, of_decide_eq_true he.2⟩
theorem with_is {n r : Nat} (hn : n ≤ 7) {entries : List Entry} (inv : EInv n r entries) {f : Fact} (hf : f ∈ entries.map fun e => e.fact) (g : Fact) : g ∈ withPremises entries maxRounds [f] ↔ Reach (premE entries) f g :=
  with_go hn inv.fl (fun g hg p hp => by
    obtain ⟨e, he, rfl, _⟩ := premE_in hn inv g hg p hp
    exact List.mem_map.mpr ⟨e, he, rfl⟩) 900 (by simp) (fun g hg => by rw [List.mem_singleton.mp hg]; exact hf) (fun g hg => by rw [List.mem_singleton.mp hg]; exact .refl) (List.mem_singleton.mpr rfl) (by simp) g
theorem addF_pre (ks : List Fact) (f : Fact) : ∃ s, addF ks f = ks ++ s := by
  unfold addF
  split
  · exact ⟨[], (List.append_nil _).symm⟩
  · exact ⟨[f], rfl⟩
theorem foldF_pre : ∀ (ps ks : List Fact), ∃ s, ps.foldl addF ks = ks ++ s
  | [], ks => ⟨[], (List.append_nil _).symm⟩
  | p :: ps, ks => by
    obtain ⟨s1, e1⟩ := addF_pre ks p
    obtain ⟨s2, e2⟩ := foldF_pre ps (addF ks p)
    exact ⟨s1 ++ s2, by rw [List.foldl_cons, e2, e1, List.append_assoc]⟩
theorem mem_foldF : ∀ {ps ks : List Fact} {g : Fact}, g ∈ ps.foldl addF ks ↔ g ∈ ks ∨ g ∈ ps
  | [], ks, g => by simp
  | p :: ps, ks, g => by
    rw [List.foldl_cons, mem_foldF, mem_addF, List.mem_cons, or_assoc]
theorem foldF_fl {n : Nat} : ∀ {ps ks : List Fact}, Fl n ks → (∀ p ∈ ps, Va n p) → Fl n (ps.foldl addF ks)
  | [], _, h, _ => h
  | p :: ps, ks, h, hp => foldF_fl (ps := ps) (addF_fl h (hp p (List.mem_cons_self ..))) fun q hq => hp q (List.mem_cons_of_mem _ hq)
/-- the premises as the program finds them -/
def premW (n : Nat) (es : List (Fact × Nat)) (g : Fact) : List Fact := match roundIn es g with
  | none => []
  | some r => if 0 < r then ((reasonAt n es g r).map (·.2)).getD [] else []
theorem premW_is {n r : Nat} (hn : n ≤ 7) {entries : List Entry} (inv : EInv n r entries) (g : Fact) : premW n (entries.map pr) g = premE entries g := by
  unfold premW premE
  rw [roundIn_pr]
  cases h : findEntry entries g with
  | none => rfl
  | some d =>
    obtain ⟨hdm, rfl⟩ := find_entry h
    show (if 0 < d.round then _ else _) = d.premises
    by_cases h0 : 0 < d.round
    · rw [if_pos h0]
      obtain ⟨k, _, hr⟩ := ent_reason hn inv hdm h0
      rw [hr]
      rfl
    · rw [if_neg h0, (ent_zero inv hdm (by omega)).2]
theorem reach_congr {P P' : Fact → List Fact} (h : ∀ g, P g = P' g) {f g : Fact} : Reach P f g ↔ Reach P' f g := by
  rw [funext h]
/-! ### closed -/
theorem new_fl {n : Nat} (hn : n ≤ 7) {entries : List Entry} (hfl : Fl n (entries.map fun e => e.fact)) (round : Nat) : Fl n ((entries ++ sortEntries (newEntries n entries round)).map fun e => e.fact) := by
  rw [List.map_append]
  have hp : ((sortEntries (newEntries n entries round)).map fun e => e.fact).Perm ((newEntries n entries round).map fun e => e.fact) := (sortE_perm _).map _
  rw [new_pick hn hfl] at hp ⊢
  refine ⟨List.nodup_append.mpr ⟨hfl.nd, hp.symm.nodup pick_nd, fun a ha b hb e => ?_⟩, fun f hf => ?_⟩
  · obtain ⟨d, hd, rfl⟩ := List.mem_map.mp (hp.mem_iff.mp hb)
    exact (pick_mem d hd).2 (by rw [← e]; exact ha)
  · rcases List.mem_append.mp hf with hf | hf
    · exact hfl.va f hf
    · obtain ⟨d, hd, rfl⟩ := List.mem_map.mp (hp.mem_iff.mp hf)
      exact cand_va hfl.va (tab_of hn hfl.va) d (pick_mem d hd).1
def Closed (n : Nat) (fs : List Fact) : Prop := ∀ rl ∈ rules, ∀ x, Fit n (rdsOf fs) rl x → ∀ c ∈ rl.conclusions, ∀ g, normalize (substitute x c) = some g → g ∈ fs
theorem new_none {n : Nat} (hn : n ≤ 7) {entries : List Entry} (hfl : Fl n (entries.map fun e => e.fact)) {round : Nat} (h : newEntries n entries round = []) : Closed n (entries.map fun e => e.fact) := by
  intro rl hrl x fit c hc g hg
  refine Classical.byContradiction fun hno => ?_
  obtain ⟨k, hk⟩ := List.getElem?_of_mem hrl
  have ht := tab_of hn hfl.va
  have hx := (fit_iff hfl.va ht (rule_ok hrl)).mpr fit
  have hc : (⟨g, round, some k, (rl.premises.map (substitute x)).filterMap normalize⟩ : Entry) ∈ cand n (tableOf (entries.map fun e => e.fact)) round := cand_mem.mpr ⟨rl, k, hk, x, hx, c, hc, hg, rfl, rfl, rfl⟩
  have hf := pick_find g (l := cand n (tableOf (entries.map fun e => e.fact)) round) (fs := entries.map fun e => e.fact)
  rw [if_neg hno, ← new_pick hn hfl, h] at hf
  have := List.find?_eq_none.mp hf.symm _ hc
  simp at this
theorem deduce_closed {n : Nat} (hn : n ≤ 7) : ∀ (fuel : Nat) {round : Nat} {entries : List Entry}, Fl n (entries.map fun e => e.fact) → 841 ≤ fuel + entries.length →
    Fl n ((deduce n fuel round entries).map fun e => e.fact) ∧ Closed n ((deduce n fuel round entries).map fun e => e.fact) ∧ ∀ e ∈ entries, e ∈ deduce n fuel round entries
  | 0, round, entries, hfl, hlen => by
    have := hfl.few hn
    rw [List.length_map] at this
    omega
  | fuel + 1, round, entries, hfl, hlen => by
    unfold deduce
    dsimp only
    by_cases c : newEntries n entries round = []
    · rw [if_pos c]
      exact ⟨hfl, new_none hn hfl c, fun _ h => h⟩
    · rw [if_neg c]
      have hpos : 0 < (newEntries n entries round).length := List.length_pos_iff.mpr c
      obtain ⟨h1, h2, h3⟩ := deduce_closed hn fuel (round := round + 1) (new_fl hn hfl round) (by rw [List.length_append, (sortE_perm _).length_eq]; omega)
      exact ⟨h1, h2, fun e he => h3 e (List.mem_append_left _ he)⟩
theorem known_closed {n : Nat} (hn : n ≤ 7) {hyps : List Fact} (hfl : Fl n hyps) : Fl n ((knownEntries ⟨n, hyps⟩).map fun e => e.fact) ∧ Closed n ((knownEntries ⟨n, hyps⟩).map fun e => e.fact) ∧ ∀ f ∈ hyps, f ∈ (knownEntries ⟨n, hyps⟩).map fun e => e.fact := by
  have e2 : (initialEntries hyps).map (fun e => e.fact) = hyps := by
    unfold initialEntries
    rw [List.map_map]
    exact (List.map_congr_left fun _ _ => rfl).trans (List.map_id _)
  obtain ⟨h1, h2, h3⟩ := deduce_closed hn maxRounds (round := 1) (entries := initialEntries hyps) (by rw [e2]; exact hfl) (by show 841 ≤ 900 + _; omega)
  exact ⟨h1, h2, fun f hf => List.mem_map.mpr ⟨_, h3 ⟨f, 0, none, []⟩ (List.mem_map.mpr ⟨f, hf, rfl⟩), rfl⟩⟩
end Mi
/-! every problem has its theory; needed hypotheses; rounds. -/
namespace Mi
open Kh375
theorem pw_of {α : Type} {R : α → α → Prop} : ∀ {l : List α}, (∀ a ∈ l, ∀ b ∈ l, R a b) → l.Pairwise R
  | [], _ => .nil
  | a :: l, h => List.pairwise_cons.mpr ⟨fun b hb => h a (List.mem_cons_self ..) b (List.mem_cons_of_mem _ hb), pw_of fun c hc d hd => h c (List.mem_cons_of_mem _ hc) d (List.mem_cons_of_mem _ hd)⟩
theorem facts_of {r : Nat} (fs : List Fact) : (fs.map fun f => (f, r)).map (·.1) = fs := by
  rw [List.map_map]
  exact (List.map_congr_left fun _ _ => rfl).trans (List.map_id _)
theorem sorted_ex {n : Nat} {ks : List Fact} (h : Fl n ks) : ∃ fs : List Fact, fs.Perm ks ∧ fs.Pairwise fun f g => isBefore g f = false := by
  have hm : ((ks.map fun f => (⟨f, 0, none, []⟩ : Entry)).map fun e => e.fact) = ks := by
    rw [List.map_map]
    exact (List.map_congr_left fun _ _ => rfl).trans (List.map_id _)
  refine ⟨(sortEntries (ks.map fun f => ⟨f, 0, none, []⟩)).map fun e => e.fact, ((sortE_perm _).map _).trans (.of_eq hm), ?_⟩
  rw [List.pairwise_map]
  exact sortE_up fun e he => by
    obtain ⟨f, hf, rfl⟩ := List.mem_map.mp he
    exact h.va f hf
theorem run_go {n : Nat} (hn : n ≤ 7) (h0 : 0 < n) : ∀ (m : Nat) {r : Nat} {es : List (Fact × Nat)} {news : List Fact}, 2 * (841 - es.length) + (if news = [] then 0 else 1) ≤ m → Fl n (es.map (·.1)) → (∀ f ∈ news, f ∈ es.map (·.1)) → ∃ es', Run n r es news es'
  | 0, r, es, news, hm, hfl, hs => by
    have : news = [] := by
      by_cases c : news = []
      · exact c
      · rw [if_neg c] at hm
        omega
    subst this
    exact ⟨es, .stop⟩
  | m + 1, r, es, news, hm, hfl, hs => by
    by_cases c : news = []
    · subst c
      exact ⟨es, .stop⟩
    · rw [if_neg c] at hm
      have dfl := der_fl (n := n) hfl hs
      obtain ⟨new, h1, h2⟩ := sorted_ex dfl
      have nfl : Fl n (es.map (·.1) ++ new) := ⟨List.nodup_append.mpr ⟨hfl.nd, h1.symm.nodup dfl.nd, fun a ha b hb e => der_new h0 hfl hs (h1.mem_iff.mp hb) (by rw [← e]; exact ha)⟩, fun f hf => by
        rcases List.mem_append.mp hf with hf | hf
        · exact hfl.va f hf
        · exact dfl.va f (h1.mem_iff.mp hf)⟩
      have few := nfl.few hn
      rw [List.length_append, List.length_map] at few
      obtain ⟨es', h⟩ := run_go hn h0 m (r := r + 1) (es := es ++ new.map fun f => (f, r + 1)) (news := new) (by
        rw [List.length_append, List.length_map]
        cases new with
        | nil => simp; omega
        | cons a l =>
          rw [if_neg (fun z => nomatch z)]
          rw [List.length_cons] at few ⊢
          omega) (by rw [List.map_append, facts_of]; exact nfl) (by rw [List.map_append, facts_of]; exact fun f hf => List.mem_append_right _ hf)
      exact ⟨es', .step c (by rw [readsOf_is]; exact h1) h2 h⟩
theorem run_ex {n : Nat} (hn : n ≤ 7) (h0 : 0 < n) {hyps : List Fact} (hfl : Fl n hyps) : ∃ es, Run n 0 (hyps.map fun f => (f, 0)) hyps es :=
  run_go hn h0 _ (Nat.le_refl _) (by rw [facts_of]; exact hfl) (by rw [facts_of]; exact fun _ h => h)
theorem known_inv {n : Nat} (hn : n ≤ 7) (h0 : 0 < n) {hyps : List Fact} (hfl : Fl n hyps) : ∃ r, EInv n r (knownEntries ⟨n, hyps⟩) := by
  obtain ⟨es, h⟩ := run_ex hn h0 hfl
  exact (run_spec hn h0 hfl h).2
/-- entries of round 0 are the hypotheses -/
theorem deduce_rounds {n : Nat} (hn : n ≤ 7) : ∀ (fuel : Nat) {round : Nat} {entries : List Entry}, Fl n (entries.map fun e => e.fact) → (entries.Pairwise fun a b => a.round ≤ b.round) → (∀ e ∈ entries, e.round < round) →
    ((deduce n fuel round entries).Pairwise fun a b => a.round ≤ b.round) ∧ ∀ e ∈ deduce n fuel round entries, e ∈ entries ∨ round ≤ e.round
  | 0, round, entries, _, hp, _ => ⟨hp, fun e he => .inl he⟩
  | fuel + 1, round, entries, hfl, hp, hlt => by
    unfold deduce
    dsimp only
    by_cases c : newEntries n entries round = []
    · rw [if_pos c]
      exact ⟨hp, fun e he => .inl he⟩
    · rw [if_neg c]
      have hr : ∀ e ∈ sortEntries (newEntries n entries round), e.round = round := fun e he => by
        have h := (sortE_perm _).mem_iff.mp he
        rw [new_pick hn hfl] at h
        obtain ⟨_, _, _, _, _, _, _, _, h, _⟩ := cand_mem.mp (pick_mem e h).1
        exact h
      obtain ⟨h1, h2⟩ := deduce_rounds hn fuel (round := round + 1) (entries := entries ++ sortEntries (newEntries n entries round)) (new_fl hn hfl round) (by
        rw [List.pairwise_append]
        refine ⟨hp, ?_, fun a ha b hb => ?_⟩
        · exact pw_of (fun a ha b hb => by rw [hr a ha, hr b hb]; exact Nat.le_refl _)
        · rw [hr b hb]
          exact Nat.le_of_lt (hlt a ha)) (fun e he => by
        rcases List.mem_append.mp he with he | he
        · have := hlt e he
          omega
        · rw [hr e he]
          omega)
      refine ⟨h1, fun e he => ?_⟩
      rcases h2 e he with h | h
      · rcases List.mem_append.mp h with h | h
        · exact .inl h
        · exact .inr (Nat.le_of_eq (hr e h).symm)
      · exact .inr (by omega)
theorem init_facts (hyps : List Fact) : (initialEntries hyps).map (fun e => e.fact) = hyps := by
  unfold initialEntries
  rw [List.map_map]
  exact (List.map_congr_left fun _ _ => rfl).trans (List.map_id _)
theorem known_rounds {n : Nat} (hn : n ≤ 7) {hyps : List Fact} (hfl : Fl n hyps) : ((knownEntries ⟨n, hyps⟩).Pairwise fun a b => a.round ≤ b.round) ∧ ∀ e ∈ knownEntries ⟨n, hyps⟩, e.round = 0 → e.fact ∈ hyps := by
  have hz : ∀ e ∈ initialEntries hyps, e.round = 0 ∧ e.fact ∈ hyps := fun e he => by
    obtain ⟨f, hf, rfl⟩ := List.mem_map.mp he
    exact ⟨rfl, hf⟩
  obtain ⟨h1, h2⟩ := deduce_rounds hn maxRounds (round := 1) (entries := initialEntries hyps) (by rw [init_facts]; exact hfl) (pw_of (fun a ha b hb => by rw [(hz a ha).1, (hz b hb).1]; exact Nat.le_refl _)) (fun e he => by rw [(hz e he).1]; exact Nat.one_pos)
  refine ⟨h1, fun e he h0 => ?_⟩
  rcases h2 e he with h | h
  · exact (hz e h).2
  · omega
/-- the last round -/
theorem last_round : ∀ {l : List Entry}, (l.Pairwise fun a b => a.round ≤ b.round) → ∀ m, (∀ e ∈ l, m ≤ e.round) → (l.map fun e => e.round).foldl max m = (l.getLast?.map fun e => e.round).getD m
  | [], _, _, _ => rfl
  | a :: l, h, m, hm => by
    rw [List.pairwise_cons] at h
    have hma := hm a (List.mem_cons_self ..)
    rw [List.map_cons, List.foldl_cons, Nat.max_eq_right hma, last_round h.2 a.round h.1]
    cases l with
    | nil => rfl
    | cons b l => rw [List.getLast?_cons_cons]; rw [List.getLast?_eq_some_getLast (List.cons_ne_nil b l)]; rfl
theorem round_count {n : Nat} (hn : n ≤ 7) {hyps : List Fact} (hfl : Fl n hyps) : ((knownEntries ⟨n, hyps⟩).map fun e => e.round).foldl max 0 = ((knownEntries ⟨n, hyps⟩).getLast?.map fun e => e.round).getD 0 :=
  last_round (known_rounds hn hfl).1 0 fun _ _ => Nat.zero_le _
/-- a hypothesis that a proof does not use is not needed -/
theorem not_needed {n : Nat} (hn : n ≤ 7) (h0 : 0 < n) {hyps hyps' : List Fact} (hfl : Fl n hyps) (hfl' : Fl n hyps') {f h : Fact} (hs : ∀ g ∈ hyps, g ≠ h → g ∈ hyps') (hf : f ∈ (knownEntries ⟨n, hyps⟩).map fun e => e.fact) (hno : ¬ Reach (premE (knownEntries ⟨n, hyps⟩)) f h) :
    f ∈ (knownEntries ⟨n, hyps'⟩).map fun e => e.fact := by
  obtain ⟨r, inv⟩ := known_inv hn h0 hfl
  obtain ⟨fl', cl', hs'⟩ := known_closed hn hfl'
  have hz := (known_rounds hn hfl).2
  generalize knownEntries ⟨n, hyps⟩ = entries at *
  generalize (knownEntries ⟨n, hyps'⟩).map (fun e => e.fact) = S at *
  have key : ∀ (k : Nat) (e : Entry), e ∈ entries → e.round ≤ k → Reach (premE entries) f e.fact → e.fact ∈ S := by
    intro k
    induction k with
    | zero =>
      intro e he hk hr
      exact hs' _ (hs _ (hz e he (by omega)) fun z => hno (by rw [← z]; exact hr))
    | succ k ih =>
      intro e he hk hr
      by_cases h0 : e.round = 0
      · exact hs' _ (hs _ (hz e he h0) fun z => hno (by rw [← z]; exact hr))
      · obtain ⟨ru, _, hre⟩ := ent_reason hn inv he (by omega)
        have va := inv.fl.va e.fact (List.mem_map.mpr ⟨e, he, rfl⟩)
        obtain ⟨rl, x, hrl, fit, ⟨c, hc, hg⟩, hps⟩ := reason_fit va hre
        have hrm := List.mem_of_getElem? hrl
        have pfl := prior_fl (n := n) (es := entries.map pr) (by rw [pr_facts]; exact inv.fl) e.round
        refine cl' rl hrm x ⟨fit.mem, fun p hp => ?_⟩ c hc _ hg
        obtain ⟨g, hgm, hgn⟩ := prem_norm pfl.va (rule_ok hrm) fit hp
        rw [prior_pr] at hgm
        obtain ⟨d, hd, rfl⟩ := List.mem_map.mp hgm
        rw [List.mem_filter] at hd
        have hlt : d.round < e.round := of_decide_eq_true hd.2
        have hmem : d.fact ∈ premE entries e.fact := by
          unfold premE
          rw [find_self inv.fl.nd e he]
          show d.fact ∈ e.premises
          rw [hps]
          exact List.mem_filterMap.mpr ⟨_, List.mem_map.mpr ⟨p, hp, rfl⟩, hgn⟩
        have hS := ih d hd.1 (by omega) (.step hr hmem)
        exact (mem_rds fl'.va (g := substitute x p) ((rule_ok hrm).prem p hp).kind).mpr ⟨_, hS, hgn⟩
  obtain ⟨e, he, rfl⟩ := List.mem_map.mp hf
  exact key e.round e he (Nat.le_refl _) .refl
end Mi
set_option Elab.async false
set_option maxRecDepth 100000
set_option maxHeartbeats 4000000
namespace G
open PySem PySem.Spec PyProof.Rows L2
open Kh375 (Fact Rule)
theorem round_of_mem {n : Nat} {es : List (Fact × Nat)} (h : Mi.Fl n (es.map (·.1))) {e : Fact × Nat} (he : e ∈ es) : Mi.roundIn es e.1 = some e.2 := by
  have nd := h.nd
  clear h
  induction es with
  | nil => cases he
  | cons a l ih =>
    rw [List.map_cons, List.nodup_cons] at nd
    unfold Mi.roundIn
    rcases List.mem_cons.mp he with rfl | he
    · rw [List.find?_cons_of_pos (by simp)]
      rfl
    · have ne : ¬ decide (a.1 = e.1) = true := fun z => nd.1 (List.mem_map.mpr ⟨e, he, (of_decide_eq_true z).symm⟩)
      rw [List.find?_cons_of_neg (p := fun x : Fact × Nat => decide (x.1 = e.1)) ne]
      exact ih he nd.2
theorem dec_lt {a b : Nat} : decide ((a : Int) < (b : Int)) = decide (a < b) := by
  rw [Bool.eq_iff_iff, decide_eq_true_eq, decide_eq_true_eq]
  omega
section
variable {P : Program} {w : World} {K : PySem.W.Frag} {mg : Str → Option Value} {base : Heap} {A : Ad}
/-! readings_before: slots 0 theory, 1 number, 2 found, 3 fact, 4 reading -/
abbrev s_readings_before : Stmt := topS 49
abbrev N_readings_before : List Str := ["theory", "number", "found", "fact", "reading"]
theorem sc_readings_before : FnScope N_readings_before ["theory", "number"] (defScope s_readings_before) := C8.fnScope_by (by decide +kernel)
def sp_readings_before (A : Ad) : Sp := fun vs H Q _ => ∃ (t : Addr) (n r : Nat) (es : List (Fact × Nat)) (Hz : Hp), vs = [.ref t, vN r] ∧ ThAt A Hz H t n es ∧ Mi.Fl n (es.map (·.1)) ∧ n ≤ 7 ∧
  ∀ H' d, L2.Same H H' → H d = none → DSet H' d (Mi.rdsOf (Mi.priorF es r)) → Q (.ref d) H'
theorem c_readings_before (T : Txt K mg A) : C8.Cal P w K mg base 4 "readings_before" (sp_readings_before A) [] := by
  obtain ⟨f, fd, F, b⟩ := T.d_readings_before.ex
  refine C8.cal0 F b .nil sc_readings_before ?_ ?_
  · rintro vs H Q E ⟨t, n, r, es, Hz, rfl, _⟩
    rfl
  · rintro cdv _ outer s H vs Q E hr ⟨t, n, r, es, Hz, rfl, hth, hes, h7, q⟩
    obtain ⟨dx, lo, dr, dk, ds, L, th⟩ := id hth
    obtain ⟨ov, o2, o3⟩ := th.order
    obtain ⟨rv, r2, _, r4⟩ := th.rounds
    have hfew := hes.few h7
    rw [List.length_map] at hfew
    refine ⟨_, (pss_cons (ps_set (i := 2) sc_readings_before.nd rfl (Or.inl rfl) pe_dnewT)
        (pss_cons (ps_for PassesOwn.never rfl (pi_list (pe_fld (pv 0) rfl)) (pg_name (i := 3) sc_readings_before.nd rfl (Or.inl rfl))
        (pss_one (ps_if (pt_cmpR op_lt (pe_dget (hu_of hr) (pe_fld (pv 0) rfl) (pv 3) (fun _ _ => rfl)) (pv 1) (nomark _)) (pss_one (ps_for PassesOwn.never rfl (pi_list (C8.pe_c (c_readings T) hr (by decide) rfl (pa_cons (pv 3) pa_nil))) (pg_name (i := 4) sc_readings_before.nd rfl (Or.inl rfl))
        (pss_one (ps_dput (hu_of hr) (pv 2) (pv 4) pe_bl rfl)))) pss_nil)))
        (pss_one (ps_ret (pv 2))))), ?_⟩
    refine fun d nd => ?_
    have m0 : L2.Same H (upd H d (.dT [])) := L2.Same.new nd
    have d0 : DSet (upd H d (.dT [])) d [] := dset_nil upd_same
    generalize upd H d (.dT []) = H1 at *
    refine ⟨_, rfl, t, A.ct, dx, _, _, rfl, m0 _ _ th.ins, T.k_Theory.cl, T.t_order, rfl, lo, rfl, ⟨ov, SqL.of (m0 _ _ o2)⟩, for_list (K := K) (a := lo) (xs := ov) (fun i σ Hc => ∃ x3 x4, σ = [some (.ref t), some (vN r), some (.ref d), x3, x4] ∧ SameX d H1 Hc ∧ DSet Hc d (Mi.rdsOf (Mi.priorF (es.take i) r)))
      ⟨none, none, rfl, SameX.refl, d0⟩ (fun i σ Hc _ ⟨_, _, _, z, _⟩ => SqL.of ((z.base m0 nd) _ _ o2)) ?_ ?_⟩
    · rintro i y σ Hc hy ⟨x3, x4, rfl, sx, hd⟩
      have sH : L2.Same H Hc := sx.base m0 nd
      obtain ⟨fc, hfc, hfa⟩ := paired_at o3 hy
      obtain ⟨e, he, rfl⟩ := map_get hfc
      obtain ⟨af, rfl, haf⟩ := sH.tp hfa
      have hmem := List.mem_of_getElem? he
      have va := hes.va e.1 (List.mem_map.mpr ⟨e, hmem, rfl⟩)
      have hg : DGet Hc dr (.ref af) (some (vN e.2)) := by
        have z := DGet.t (sH _ _ r2) (by rw [keyF_kV]; exact haf : Hc af = some (.tup ((keyF e.1).map kV)))
        rw [r4, round_of_mem hes hmem] at z
        exact z
      have et : Mi.priorF (es.take (i + 1)) r = Mi.priorF (es.take i) r ++ (if e.2 < r then [e.1] else []) := by
        unfold Mi.priorF
        rw [take_snoc he, List.filter_append, List.map_append]
        congr 1
        by_cases c : e.2 < r
        · simp [c]
        · simp [c]
      refine ⟨_, rfl, t, A.ct, dx, _, _, rfl, sH _ _ th.ins, T.k_Theory.cl, T.t_rounds, rfl, _, rfl, dr, _, rfl, hg, _, rfl, _, _, rfl, rfl, _, rfl, ite2 (fun h => ?_) fun h => ?_⟩
      · have hlt : e.2 < r := by
          rw [dec_lt] at h
          exact of_decide_eq_true h
        rw [if_pos hlt] at et
        refine ⟨_, rfl, _, e.1, rfl, ⟨af, rfl, haf⟩, va.nf, fun H2 p us m2 np hp hus => ?_⟩
        have hd2 := m2.dset hd
        obtain ⟨kv2, hd2', _⟩ := id hd2
        have few2 : (Mi.priorF (es.take i) r).length ≤ 840 := by
          refine Nat.le_trans ?_ hfew
          unfold Mi.priorF
          rw [List.length_map]
          exact Nat.le_trans (List.length_filter_le _ _) (List.length_take_le' _ _)
        have rl : (Mi.rdsOf (Mi.priorF (es.take i) r)).length ≤ 24 * 840 := by
          have z := Mi.readsOf_len ((Mi.priorF (es.take i) r).map fun f => (f, 0))
          rw [Mi.readsOf_is, map_at, List.length_map] at z
          omega
        have r24 : (Mi.readings e.1).length ≤ 24 := by
          unfold Mi.readings
          rw [List.length_map]
          exact Mi.orders_len _
        refine ⟨p, rfl, ⟨us, SqL.of hp⟩, for_list (K := K) (a := p) (xs := us) (fun j σ H3 => ∃ x4, σ = [some (.ref t), some (vN r), some (.ref d), some (.ref af), x4] ∧ SameX d H2 H3 ∧ DSet H3 d (Mi.rdsOf (Mi.priorF (es.take i) r) ++ (Mi.readings e.1).take j))
          ⟨x4, rfl, SameX.refl, by simpa using hd2⟩ (fun j σ H3 _ ⟨_, _, z, _⟩ => SqL.of (z _ _ (ne_kind hp hd2' fun z => nomatch z) hp)) ?_ ?_⟩
        · rintro j y σ H3 hy ⟨x4, rfl, sx3, ⟨kv, k1, k2, k3⟩⟩
          obtain ⟨rd, hrd, ard, rfl, hra⟩ := paired_at hus hy
          have hra3 := sx3 _ _ (ne_kind hra hd2' fun z => nomatch z) hra
          have tl : ((Mi.readings e.1).take j).length ≤ 24 := Nat.le_trans (List.length_take_le' _ _) r24
          refine ⟨_, rfl, _, rfl, d, _, rfl, DPut.t k1 (by rw [keyF_kV]; exact hra3) (small_line ?_), ?_⟩
          · rw [List.length_append] at k2
            omega
          · refine ⟨_, rfl, sx3.put, ?_⟩
            rw [take_snoc hrd, ← List.append_assoc]
            exact ⟨_, upd_same, dset_put k2 k3 rd (.bl true)⟩
        · rintro σ H3 ⟨x4, rfl, sx3, hd3⟩
          have e2 : us.length = (Mi.readings e.1).length := hus.length
          rw [e2, List.take_length] at hd3
          refine ⟨_, _, rfl, sx.trans (m2.x.trans sx3), ?_⟩
          rw [et]
          unfold Mi.rdsOf
          rw [List.flatMap_append, List.flatMap_singleton]
          exact hd3
      · have hlt : ¬ e.2 < r := fun z => h (by rw [dec_lt]; exact decide_eq_true z)
        rw [if_neg hlt, List.append_nil] at et
        refine ⟨_, _, rfl, sx, ?_⟩
        rw [et]
        exact hd
    · rintro σ Hc ⟨x3, x4, rfl, sx, hd⟩
      have e : ov.length = es.length := by rw [o3.length, List.length_map]
      rw [e, List.take_length] at hd
      exact ⟨_, rfl, q Hc d (sx.base m0 nd) nd hd⟩
end
end G
set_option Elab.async false
set_option maxRecDepth 100000
set_option maxHeartbeats 4000000
namespace G
open PySem PySem.Spec PyProof.Rows L2
open Kh375 (Fact Rule)
def numV (o : Option (Nat × List Fact)) : V := match o with
  | none => .int (-1)
  | some q => vN q.1
def prmV (o : Option (Nat × List Fact)) : List Fact := match o with
  | none => []
  | some q => q.2
theorem find_take {α β : Type} {g : α → Option β} : ∀ {l : List α} {i : Nat} {a : α} {b : β}, l[i]? = some a → (∀ x ∈ l.take i, g x = none) → g a = some b → l.findSome? g = some b
  | c :: l, 0, a, b, h, _, e => by
    obtain rfl : c = a := by simpa using h
    rw [List.findSome?_cons, e]
  | c :: l, i + 1, a, b, h, hn, e => by
    rw [List.take_succ_cons] at hn
    rw [List.findSome?_cons, hn c (List.mem_cons_self ..)]
    exact find_take (i := i) (by simpa using h) (fun x hx => hn x (List.mem_cons_of_mem _ hx)) e
theorem find_noneS {α β : Type} {g : α → Option β} {l : List α} (h : ∀ x ∈ l, g x = none) : l.findSome? g = none := by
  rw [List.findSome?_eq_none_iff]
  exact h
section
variable {P : Program} {w : World} {K : PySem.W.Frag} {mg : Str → Option Value} {base : Heap} {A : Ad}
/-! reason_of: slots 0 theory, 1 fact, 2 given, 3 number, 4 rule, 5 row, 6 premise -/
abbrev s_reason_of : Stmt := topS 50
abbrev N_reason_of : List Str := ["theory", "fact", "given", "number", "rule", "row", "premise"]
theorem sc_reason_of : FnScope N_reason_of ["theory", "fact"] (defScope s_reason_of) := C8.fnScope_by (by decide +kernel)
def sp_reason_of (A : Ad) : Sp := fun vs H Q _ => ∃ (t : Addr) (vf : V) (n r : Nat) (f : Fact) (es : List (Fact × Nat)) (Hz : Hp), vs = [.ref t, vf] ∧ ThAt A Hz H t n es ∧ Mi.Fl n (es.map (·.1)) ∧ n ≤ 7 ∧ Tp H vf f ∧ Mi.Va n f ∧ Mi.roundIn es f = some r ∧
  ∀ H' p lp, L2.Same H H' → H p = none → H lp = none → H' p = some (.tup [numV (Mi.reasonAt n es f r), .ref lp]) → Ls H' lp (prmV (Mi.reasonAt n es f r)) → Q (.ref p) H'
theorem c_reason_of (T : Txt K mg A) : C8.Cal P w K mg base 5 "reason_of" (sp_reason_of A) [] := by
  obtain ⟨f, fd, F, b⟩ := T.d_reason_of.ex
  refine C8.cal0 F b .nil sc_reason_of ?_ ?_
  · rintro vs H Q E ⟨t, vf, n, r, f, es, Hz, rfl, _⟩
    rfl
  · rintro cdv _ outer s H vs Q E hr ⟨t, _, n, r, f, es, Hz, rfl, hth, hes, h7, ⟨af, rfl, haf⟩, va, hround, q⟩
    obtain ⟨dx, lo, dr, dk, ds, L, th⟩ := id hth
    obtain ⟨rv, r2, _, r4⟩ := th.rounds
    obtain ⟨rs, hrs⟩ := T.rules
    have rslen : rs.length = Kh375.rules.length := (hrs H).2.length
    have pfl := Mi.prior_fl hes r
    have hg : DGet H dr (.ref af) (some (vN r)) := by
      have z := DGet.t r2 (by rw [keyF_kV]; exact haf : H af = some (.tup ((keyF f).map kV)))
      rw [r4, hround] at z
      exact z
    refine ⟨_, (pss_cons (ps_set (i := 2) sc_reason_of.nd rfl (Or.inl rfl) (C8.pe_c (c_readings_before T) hr (by decide) rfl (pa_cons (pv 0) (pa_cons (pe_dget (hu_of hr) (pe_fld (pv 0) rfl) (pv 1) (fun _ _ => rfl)) pa_nil))))
        (pss_cons (ps_for PassesOwn.never rfl (pi_enumT rfl T.n_enumerate (pa_cons (C8.pe_gc rfl T.g_RULES) pa_nil)) (pg_tup rfl (pgs_cons (pg_name (i := 3) sc_reason_of.nd rfl (Or.inl rfl)) (pgs_cons (pg_name (i := 4) sc_reason_of.nd rfl (Or.inl rfl)) pgs_nil)))
        (pss_cons (ps_set (i := 5) sc_reason_of.nd rfl (Or.inl rfl) (C8.pe_c (c_first_assignment T) hr (by decide) rfl (pa_cons (pe_fld (pv 0) rfl) (pa_cons (pv 4) (pa_cons (pv 1) (pa_cons (pv 2) pa_nil))))))
        (pss_one (ps_if (pt_cmpR op_notN (pv 5) pe_non (nomark _)) (pss_one (ps_ret (pe_tup (pa_cons (pv 3) (pa_cons (pe_lc (own := [("premise", 6)]) (g := gName 6) (by rfl) sc_reason_of.nd (pi_list (C8.pe_c (c_premises_of T) hr (by decide) rfl (pa_cons (pv 4) (pa_cons (pv 5) pa_nil)))) (blkOk_by (own := [("premise", 6)]) (N := N_reason_of) (sc := defScope s_reason_of) (by decide +kernel)) (fun _ _ _ _ _ => pg_name (i := 6) sc_reason_of.nd rfl (Or.inl rfl)) (fun _ _ _ _ _ => pts_nil) (fun _ _ _ _ _ => (C8.pe_c (c_normal T) hr (by decide) rfl (pa_cons (pe_ix (ix_tupK K rfl) (pv 6) pe_int (fun _ _ => rfl)) (pa_cons (pe_callTy (list_ofK K rfl) rfl T.n_list (by decide +kernel) (pa_cons (pe_slice (sl_tupK K rfl) (pv 6) (po_some pe_int) po_none) pa_nil)) pa_nil))))) pa_nil))))) pss_nil))))
        (pss_one (ps_ret (pe_tup (pa_cons (pe_un un_neg pe_int) (pa_cons (pe_lst pa_nil) pa_nil))))))), ?_⟩
    refine ⟨_, rfl, _, rfl, t, A.ct, dx, _, _, rfl, th.ins, T.k_Theory.cl, T.t_rounds, rfl, _, rfl, dr, _, rfl, hg, t, n, r, es, Hz, rfl, hth, hes, h7, fun H1 d m1 nd hd => ?_⟩
    generalize eG : Mi.rdsOf (Mi.priorF es r) = given at *
    have eRe : Mi.reasonAt n es f r = Mi.reasonOf n given f := by
      unfold Mi.reasonAt
      rw [eG]
    rw [eRe] at q
    refine ⟨A.rules, rs, rfl, (hrs _).1, for_it (walk_enumT (K := K) (a := A.rules) (xs := rs)) (fun i σ Hc => ∃ x3 x4 x5, σ = [some (.ref t), some (.ref af), some (.ref d), x3, x4, x5, none] ∧ L2.Same H1 Hc ∧ ∀ y ∈ Kh375.rules.zipIdx.take i, (Mi.firstAsg n y.1 f given).map (fun x => (y.2, Mi.premsOf y.1 x)) = none)
      ⟨none, none, none, rfl, fun _ _ z => z, by simp⟩ (fun i σ Hc _ _ => (hrs Hc).1) ?_ ?_⟩
    · rintro i x σ Hc _ hi ⟨x3, x4, x5, rfl, sm, hno⟩ ⟨Tq, y, rfl, nT, rfl, hy⟩
      obtain ⟨rl, hrl, hru⟩ := paired_at (hrs Hc).2 hy
      have ok := Mi.rule_ok (List.mem_of_getElem? hrl)
      have hz : Kh375.rules.zipIdx[i]? = some (rl, i) := by
        rw [List.getElem?_zipIdx, hrl]
        simp
      refine ⟨Tq, _, rfl, SqT.of upd_same, rfl, _, _, rfl, _, _, rfl, rfl, ?_⟩
      (generalize hgen : upd _ _ _ = H2; have m2 := grow_same hgen nT; have t2 := grow_at hgen; clear hgen)
      have S2 := sm.trans m2
      have S0 := m1.trans S2
      refine ⟨_, rfl, t, A.ct, dx, _, _, rfl, S0 _ _ th.ins, T.k_Theory.cl, T.t_many, rfl, _, rfl, _, rfl, _, rfl, n, y, _, d, rl, f, given, rfl, m2.rule hru, ok, ⟨af, rfl, S0 _ _ haf⟩, va.nf, h7, S2.dset hd, fun H3 z m3 hz3 => ?_⟩
      have S3 := S0.trans m3
      refine ⟨_, rfl, rfl, _, rfl, ?_⟩
      cases e : Mi.firstAsg n rl f given with
      | none =>
        rw [e] at hz3
        cases hz3
        refine iteF ⟨_, _, _, rfl, S2.trans m3, fun y hy => ?_⟩
        rw [take_snoc hz, List.mem_append, List.mem_singleton] at hy
        rcases hy with hy | rfl
        · exact hno y hy
        · rw [e]
          rfl
      | some row =>
        rw [e] at hz3
        obtain ⟨arow, rfl, hrow⟩ := hz3
        obtain ⟨⟨fit, _⟩, _⟩ := (Mi.first_least (given := given) ok va).some row e
        rw [← eG] at fit
        have rlen : row.length = rl.variableCount := (Mi.fit_lt fit).1
        have eq2 : Mi.reasonOf n given f = some (i, Mi.premsOf rl row) := by
          unfold Mi.reasonOf
          exact find_take hz hno (by rw [e]; rfl)
        rw [eq2] at q
        refine iteT ⟨_, rfl, _, rfl, _, rfl, y, arow, rl, row, rfl, (m2.trans m3).rule hru, ok, hrow, rlen, fun H4 p4 m4 np4 hp4 => ?_⟩
        obtain ⟨ws, hw, hws⟩ := hp4
        refine ⟨p4, rfl, ⟨ws, SqL.of hw⟩, fun D nD => ?_⟩
        refine lc_list (K := K) (a := p4) (xs := ws) (fun j Hx => L2.Same H4 Hx ∧ Ls Hx D (((rl.premises.take j).map (Kh375.substitute row)).filterMap Kh375.normalize)) ⟨L2.Same.new nD, [], upd_same, .nil⟩ (fun j Hx _ ⟨z, _⟩ => SqL.of (z _ _ hw)) ?_ ?_
        · rintro j z Hx hz2 ⟨s5, vs, hD, hvs⟩
          obtain ⟨fc, hfc, ap, rfl, hap⟩ := paired_at hws hz2
          rw [List.getElem?_map] at hfc
          obtain ⟨pr, hpr, rfl⟩ : ∃ pr, rl.premises[j]? = some pr ∧ fc = Kh375.substitute row pr := by
            cases e : rl.premises[j]? with
            | none => rw [e] at hfc; cases hfc
            | some pr => rw [e] at hfc; exact ⟨pr, rfl, (Option.some.inj hfc).symm⟩
          have hpm := List.mem_of_getElem? hpr
          obtain ⟨g, hgm, hgn⟩ := Mi.prem_norm pfl.va ok fit hpm
          have hap5 := s5 _ _ hap
          refine ⟨rfl, _, rfl, ap, _, _, _, rfl, rfl, SqT.of hap5, fV_at0 _, _, rfl, _, rfl, ap, _, rfl, SqT.of hap5, cutF_not _, fun c1 nc1 => ?_⟩
          rw [cutF]
          (generalize hgen : upd _ _ _ = H6; have m6 := grow_same hgen nc1; have t6 := grow_at hgen; clear hgen)
          refine ⟨c1, _, rfl, .inr (SqT.of t6), fun l1 nl1 => ?_⟩
          (generalize hgen : upd _ _ _ = H7; have m7 := grow_same hgen nl1; have t7 := grow_at hgen; clear hgen)
          refine ⟨_, l1, (Kh375.substitute row pr).points, g, rfl, t7, (ok.prem pr hpm).kind, hgn, fun H8 pg m8 npg hpg => ?_⟩
          have S8 := (m6.trans m7).trans m8
          have hD8 := S8 _ _ hD
          have vl := hvs.length
          refine ⟨vs, hD8, ?_, (s5.trans S8).mut nD, vs ++ [.ref pg], upd_same, ?_⟩
          · refine small_line ?_
            have l1 := List.length_filterMap_le Kh375.normalize ((rl.premises.take j).map (Kh375.substitute row))
            rw [List.length_map, List.length_take] at l1
            have := ok.nprem
            omega
          · rw [take_snoc hpr, List.map_append, List.filterMap_append]
            have eg : ([pr].map (Kh375.substitute row)).filterMap Kh375.normalize = [g] := by
              simp [hgn]
            rw [eg]
            have tk := S8.tk.trans (tk_lst (o := .lst (vs ++ [.ref pg])) hD8)
            exact Paired.snoc (tk.tps hvs) ⟨pg, rfl, keep hpg (ne_kind hpg hD8 fun z => nomatch z)⟩
        · rintro Hx ⟨s5, hD⟩
          rw [hws.length, List.length_map, List.take_length] at hD
          have SD := (S3.trans m4).trans s5
          have nDH : H D = none := (S3.trans m4).free nD
          refine ⟨(by show 2 ≤ sizeLine; decide), fun p np => ?_⟩
          have mN : L2.Same Hx _ := L2.Same.new (o := .tup [.int (i : Int), .ref D]) np
          exact q _ p D (SD.trans mN) (SD.free np) nDH upd_same (mN.ls hD)
    · rintro σ Hc ⟨x3, x4, x5, rfl, sm, hno⟩
      have e2 : rs.length = Kh375.rules.zipIdx.length := by rw [rslen, List.length_zipIdx]
      rw [e2, List.take_length] at hno
      have eq2 : Mi.reasonOf n given f = none := by
        unfold Mi.reasonOf
        exact find_noneS hno
      rw [eq2] at q
      refine ⟨_, rfl, Nat.zero_le _, fun l nl => ?_⟩
      (generalize hgen : upd _ _ _ = H2; have m2 := grow_same hgen nl; have t2 := grow_at hgen; clear hgen)
      refine ⟨(by show 2 ≤ sizeLine; decide), fun p np => ?_⟩
      have SD := (m1.trans sm).trans m2
      have mN : L2.Same H2 _ := L2.Same.new (o := .tup [.int (-1), .ref l]) np
      exact q _ p l (SD.trans mN) (SD.free np) ((m1.trans sm).free nl) upd_same ⟨[], mN _ _ t2, .nil⟩
end
end G
set_option Elab.async false
set_option maxRecDepth 100000
set_option maxHeartbeats 4000000
namespace G
open PySem PySem.Spec PyProof.Rows L2
open Kh375 (Fact Rule)
theorem paired_get' {α β : Type} {F : α → β → Prop} : ∀ {l1 : List α} {l2 : List β}, Paired F l1 l2 → ∀ {i : Nat} {b : β}, l2[i]? = some b → ∃ a, l1[i]? = some a ∧ F a b
  | _, _, .nil, _, _, e => by cases e
  | _, _, .cons (a := a) h _, 0, b, e => ⟨a, rfl, by rw [← Option.some.inj e]; exact h⟩
  | _, _, .cons _ t, i + 1, b, e => paired_get' t (i := i) e
theorem dset_one {H : Hp} {a : Addr} {f : Fact} {v : V} (h : H a = some (.dT [(keyF f, v)])) : DSet H a [f] := by
  refine ⟨_, h, Nat.le_refl _, fun g => ?_⟩
  by_cases c : g = f
  · subst c
    simp [valV]
  · have ne : ¬ keyF f = keyF g := fun z => c (keyF_inj z).symm
    simp [valV, ne, c]
section
variable {P : Program} {w : World} {K : PySem.W.Frag} {mg : Str → Option Value} {base : Heap} {A : Ad}
/-! proof_of: slots 0 theory, 1 fact, 2 used, 3 line, 4 at, 5 premise, 6 other -/
abbrev s_proof_of : Stmt := topS 51
abbrev N_proof_of : List Str := ["theory", "fact", "used", "line", "at", "premise", "other"]
theorem sc_proof_of : FnScope N_proof_of ["theory", "fact"] (defScope s_proof_of) := C8.fnScope_by (by decide +kernel)
def sp_proof_of (A : Ad) : Sp := fun vs H Q _ => ∃ (t : Addr) (vf : V) (n : Nat) (f : Fact) (es : List (Fact × Nat)) (Hz : Hp), vs = [.ref t, vf] ∧ ThAt A Hz H t n es ∧ Mi.Fl n (es.map (·.1)) ∧ n ≤ 7 ∧ Tp H vf f ∧ f ∈ es.map (·.1) ∧
  ∀ H' p (line : List Fact), L2.Same H H' → H p = none → (∀ g, g ∈ line ↔ Mi.Reach (Mi.premW n es) f g) → Ls H' p ((es.map (·.1)).filter fun g => decide (g ∈ line)) → Q (.ref p) H'
theorem premW_in {n : Nat} {es : List (Fact × Nat)} (hes : Mi.Fl n (es.map (·.1))) {g : Fact} (hg : g ∈ es.map (·.1)) {r : Nat} (hr : Mi.roundIn es g = some r) : ∀ p ∈ prmV (Mi.reasonAt n es g r), p ∈ es.map (·.1) := by
  intro p hp
  unfold Mi.reasonAt at hp
  cases e : Mi.reasonOf n (Mi.rdsOf (Mi.priorF es r)) g with
  | none => rw [e] at hp; cases hp
  | some q =>
    rw [e] at hp
    obtain ⟨k, ps⟩ := q
    obtain ⟨rl, x, hrl, fit, _, rfl⟩ := Mi.reason_fit (hes.va g hg) e
    exact Mi.prior_sub (Mi.prems_in (Mi.prior_fl hes r).va (Mi.rule_ok (List.mem_of_getElem? hrl)) fit p hp)
theorem premW_pos {n : Nat} {es : List (Fact × Nat)} {g : Fact} {r : Nat} (hr : Mi.roundIn es g = some r) (h : 0 < r) : Mi.premW n es g = prmV (Mi.reasonAt n es g r) := by
  unfold Mi.premW
  rw [hr]
  show (if 0 < r then _ else _) = _
  rw [if_pos h]
  cases Mi.reasonAt n es g r <;> rfl
theorem premW_zero {n : Nat} {es : List (Fact × Nat)} {g : Fact} {r : Nat} (hr : Mi.roundIn es g = some r) (h : ¬ 0 < r) : Mi.premW n es g = [] := by
  unfold Mi.premW
  rw [hr]
  show (if 0 < r then _ else _) = _
  rw [if_neg h]
theorem c_proof_of (T : Txt K mg A) : C8.Cal P w K mg base 6 "proof_of" (sp_proof_of A) [] := by
  obtain ⟨f, fd, F, b⟩ := T.d_proof_of.ex
  refine C8.cal0 F b .nil sc_proof_of ?_ ?_
  · rintro vs H Q E ⟨t, vf, n, f, es, Hz, rfl, _⟩
    rfl
  · rintro cdv _ outer s H vs Q E hr ⟨t, _, n, f, es, Hz, rfl, hth, hes, h7, ⟨af, rfl, haf⟩, hmem, q⟩
    obtain ⟨dx, lo, dr, dk, ds, L, th⟩ := id hth
    obtain ⟨ov, o2, o3⟩ := th.order
    obtain ⟨rv, r2, _, r4⟩ := th.rounds
    have hfew := hes.few h7
    refine ⟨_, (pss_cons (ps_set (i := 2) sc_proof_of.nd rfl (Or.inr rfl) (pe_dispT1 (hu_of hr) (pv 1) pe_bl))
        (pss_cons (ps_set (i := 3) sc_proof_of.nd rfl (Or.inl rfl) (pe_lst (pa_cons (pv 1) pa_nil)))
        (pss_cons (ps_set (i := 4) sc_proof_of.nd rfl (Or.inl rfl) pe_int)
        (pss_cons (ps_while PassesOwn.never (pt_cmpR op_lt (pv 4) (pe_callB call_len_seq rfl T.n_len PySem.boot_len (pa_cons (pv 3) pa_nil)) (nomark _)) (pss_cons (ps_if (pt_cmpR op_gt (pe_dget (hu_of hr) (pe_fld (pv 0) rfl) (pe_ix ix_list (pv 3) (pv 4) (fun _ _ => rfl)) (fun _ _ => rfl)) pe_int (nomark _)) (pss_one (ps_for PassesOwn.never rfl (pi_list (pe_ix ix_tup (C8.pe_c (c_reason_of T) hr (by decide) rfl (pa_cons (pv 0) (pa_cons (pe_ix ix_list (pv 3) (pv 4) (fun _ _ => rfl)) pa_nil))) pe_int (fun _ _ => rfl))) (pg_name (i := 5) sc_proof_of.nd rfl (Or.inl rfl))
        (pss_one (ps_if (pt_cmp (pc_dnotin (hu_of hr) (pv 5) (pv 2)) rfl) (pss_cons (ps_dput (hu_of hr) (pv 2) (pv 5) pe_bl rfl)
        (pss_one (ps_expr (pe_bm PySem.F.plainAttrs_list PySem.F.slot_list_append PySem.F.type_list_append mt_append (pv 3) (pa_cons (pv 5) pa_nil))))) pss_nil)))) pss_nil)
        (pss_one (ps_aug (i := 4) sc_proof_of.nd rfl (Or.inl rfl) pe_int ip_add))))
        (pss_one (ps_ret (pe_lc (own := [("other", 6)]) (g := gName 6) (by rfl) sc_proof_of.nd (pi_list (pe_fld (pv 0) rfl)) (blkOk_by (own := [("other", 6)]) (N := N_proof_of) (sc := defScope s_proof_of) (by decide +kernel)) (fun _ _ _ _ _ => pg_name (i := 6) sc_proof_of.nd rfl (Or.inl rfl)) (fun _ _ _ _ _ => (pts_one (pt_cmp (pc_din (hu_of hr) (pv 6) (pv 2)) rfl))) (fun _ _ _ _ _ => (pv 6))))))))), ?_⟩
    refine fun du ndu => ⟨_, rfl, upd_same, af, keyF f, rfl, ?_, ?_⟩
    · rw [keyF_kV]
      exact L2.Same.new ndu _ _ haf
    have mu := (L2.Same.new (o := .dT []) ndu).mut (o := .dT [(keyF f, .bl true)]) ndu
    have du1 : DSet (upd (upd H du (.dT [])) du (.dT [(keyF f, .bl true)])) du [f] := dset_one upd_same
    generalize upd (upd H du (.dT [])) du (.dT [(keyF f, .bl true)]) = H1 at *
    refine ⟨_, rfl, (by show 1 ≤ sizeLine; decide), fun l nl => ?_⟩
    (generalize hgen : upd _ _ _ = H2; have m2 := grow_same hgen nl; have t2 := grow_at hgen; clear hgen)
    have S2 := mu.trans m2
    have nlH : H l = none := mu.free nl
    have hva := hes.va f hmem
    refine ⟨fun m σ Hc => ∃ line k x5, σ = [some (.ref t), some (.ref af), some (.ref du), some (.ref l), some (vN k), x5, none] ∧ m = 841 - k ∧ L2.Same H Hc ∧ DSet Hc du line ∧ Ls Hc l line ∧ Mi.Fl n line ∧ (∀ g ∈ line, g ∈ es.map (·.1)) ∧ f ∈ line ∧ (∀ g ∈ line, Mi.Reach (Mi.premW n es) f g) ∧ k ≤ line.length ∧
        ∀ j g, j < k → line[j]? = some g → ∀ p ∈ Mi.premW n es g, p ∈ line,
      ⟨_, [f], 0, none, rfl, rfl, S2, m2.dset du1, ⟨[.ref af], t2, .cons ⟨af, rfl, S2 _ _ haf⟩ .nil⟩, ⟨by simp, fun g hg => by rw [List.mem_singleton.mp hg]; exact hva⟩, fun g hg => by rw [List.mem_singleton.mp hg]; exact hmem, List.mem_singleton.mpr rfl, fun g hg => by rw [List.mem_singleton.mp hg]; exact .refl, Nat.zero_le _, fun j g hj => absurd hj (Nat.not_lt_zero _)⟩, ?_⟩
    rintro m σ Hc ⟨line, k, x5, rfl, rfl, sm, hdu, ⟨lv, hl, hlv⟩, hfl, hsub, hfin, hreach, hk, hcl⟩
    have lvl := hlv.length
    have lfew := hfl.few h7
    refine ⟨_, rfl, _, rfl, l, lv, rfl, .inl (SqL.of hl), _, _, rfl, rfl, _, rfl, ite2 (fun h => ?_) fun h => ?_⟩
    · have kl : k < line.length := by
        have := of_decide_eq_true h
        omega
      obtain ⟨g, hg⟩ : ∃ g, line[k]? = some g := ⟨_, List.getElem?_eq_getElem kl⟩
      have hgm := List.mem_of_getElem? hg
      obtain ⟨y, hy, hya⟩ := paired_get' hlv hg
      obtain ⟨ag, rfl, hag⟩ := hya
      have aty : atI lv ((k : Nat) : Int) = some (.ref ag) := atI_nat hy
      obtain ⟨e, hee, rfl⟩ := List.mem_map.mp (hsub g hgm)
      have hround := round_of_mem hes hee
      have hgd : DGet Hc dr (.ref ag) (some (vN e.2)) := by
        have z := DGet.t (sm _ _ r2) (by rw [keyF_kV]; exact hag : Hc ag = some (.tup ((keyF e.1).map kV)))
        rw [r4, hround] at z
        exact z
      refine ⟨fun σ' H' => ∃ m', m' < 841 - k ∧ _, fun σ' H' z => z, ?_⟩
      refine ⟨_, rfl, t, A.ct, dx, _, _, rfl, sm _ _ th.ins, T.k_Theory.cl, T.t_rounds, rfl, _, rfl, _, rfl, l, _, _, _, rfl, rfl, SqL.of hl, aty, dr, _, rfl, hgd, _, _, rfl, rfl, _, rfl, ite2 (fun h2 => ?_) fun h2 => ?_⟩
      · have hpos : 0 < e.2 := by
          have := of_decide_eq_true h2
          omega
        have hP := premW_pos (n := n) hround hpos
        have hPin := premW_in hes (hsub e.1 hgm) hround
        refine ⟨_, rfl, _, rfl, _, rfl, l, _, _, _, rfl, rfl, SqL.of hl, aty, t, _, n, e.2, e.1, es, Hz, rfl, hth.same sm, hes, h7, ⟨ag, rfl, hag⟩, hes.va e.1 (hsub e.1 hgm), hround, fun H3 p lp m3 np nlp0 hp hlp => ?_⟩
        obtain ⟨pv, hpv, hpvp⟩ := hlp
        generalize eps : prmV (Mi.reasonAt n es e.1 e.2) = ps at *
        have hl3 := m3 _ _ hl
        have hdu3 := m3.dset hdu
        obtain ⟨kv3, hdu3', _⟩ := id hdu3
        have nlp : lp ≠ l := fun z => by rw [z, hl] at nlp0; cases nlp0
        have pslen : ps.length ≤ 840 := by
          rw [← eps]
          cases e5 : Mi.reasonAt n es e.1 e.2 with
          | none => exact Nat.zero_le _
          | some q5 =>
            show q5.2.length ≤ 840
            obtain ⟨k5, p5⟩ := q5
            obtain ⟨rl, x, hrl, _, _, rfl⟩ := Mi.reason_fit (hes.va e.1 (hsub e.1 hgm)) e5
            have ok := Mi.rule_ok (List.mem_of_getElem? hrl)
            have := ok.nprem
            unfold Mi.premsOf
            refine Nat.le_trans (List.length_filterMap_le _ _) ?_
            rw [List.length_map]
            omega
        have hpsva : ∀ p ∈ ps, Mi.Va n p := fun p hp => hes.va p (hPin p hp)
        refine ⟨p, _, _, _, rfl, rfl, SqT.of hp, atI_nat (j := 1) rfl, lp, rfl, ⟨pv, SqL.of hpv⟩, for_list (K := K) (a := lp) (xs := pv) (fun i σ H4 => ∃ x5 lv4, σ = [some (.ref t), some (.ref af), some (.ref du), some (.ref l), some (vN k), x5, none] ∧ L2.Same H H4 ∧ Tk H3 H4 ∧ H4 lp = some (.lst pv) ∧ DSet H4 du ((ps.take i).foldl Mi.addF line) ∧ H4 l = some (.lst lv4) ∧ Paired (Tp H4) lv4 ((ps.take i).foldl Mi.addF line) ∧ Mi.Fl n ((ps.take i).foldl Mi.addF line))
          ⟨x5, lv, rfl, sm.trans m3, fun _ _ z => z, hpv, hdu3, hl3, m3.tps hlv, hfl⟩ (fun i σ H4 _ ⟨_, _, _, _, _, z, _⟩ => SqL.of z) ?_ ?_⟩
        · rintro i y σ H4 hy ⟨x5, lv4, rfl, s4, tk4, hlp4, ⟨kv, k1, k2, k3⟩, hl4, hlv4, hfl4⟩
          obtain ⟨g, hgi, hga⟩ := paired_at hpvp hy
          obtain ⟨ag4, rfl, hag4⟩ := tk4.tp hga
          have few4 := hfl4.few h7
          have lv4l := hlv4.length
          have et : (ps.take (i + 1)).foldl Mi.addF line = Mi.addF ((ps.take i).foldl Mi.addF line) g := by
            rw [take_snoc hgi, List.foldl_append]
            rfl
          rw [et]
          generalize (ps.take i).foldl Mi.addF line = L4 at *
          obtain ⟨o, ho, hos⟩ := dset_get ⟨kv, k1, k2, k3⟩ hag4
          refine ⟨_, rfl, _, rfl, du, o, rfl, ho, _, rfl, ite2 (fun h3 => ?_) fun h3 => ?_⟩
          · have gn : g ∉ L4 := fun z => by
              rw [hos, decide_eq_true z] at h3
              cases h3
            have ea : Mi.addF L4 g = L4 ++ [g] := by
              unfold Mi.addF
              rw [if_neg gn]
            rw [ea]
            refine ⟨_, rfl, _, rfl, du, _, rfl, DPut.t k1 (by rw [keyF_kV]; exact hag4) (small_line (by omega)), ?_⟩
            have s5 := s4.mut (o := .dT (putK kv (keyF g) (.bl true))) ndu
            have tk5 : Tk H3 (upd H4 du (.dT (putK kv (keyF g) (.bl true)))) := Tk.mut tk4 k1 fun _ z => nomatch z
            have tk45 : Tk H4 (upd H4 du (.dT (putK kv (keyF g) (.bl true)))) := Tk.mut (H := H4) (fun _ _ z => z) k1 fun _ z => nomatch z
            have hl5 := keep (u := .dT (putK kv (keyF g) (.bl true))) hl4 (ne_kind hl4 k1 fun z => nomatch z)
            have hlp5 := keep (u := .dT (putK kv (keyF g) (.bl true))) hlp4 (ne_kind hlp4 k1 fun z => nomatch z)
            have d5 : DSet (upd H4 du (.dT (putK kv (keyF g) (.bl true)))) du (L4 ++ [g]) := ⟨_, upd_same, dset_put k2 k3 g (.bl true)⟩
            generalize upd H4 du (.dT (putK kv (keyF g) (.bl true))) = H5 at *
            refine ⟨_, rfl, .inl ⟨rfl, _, SqL.of hl5⟩, _, rfl, l, lv4, _, rfl, rfl, hl5, small_line (by omega), ?_⟩
            have tk6 := tk_lst (o := .lst (lv4 ++ [.ref ag4])) hl5
            refine ⟨_, lv4 ++ [.ref ag4], rfl, s5.mut nlH, tk5.trans tk6, keep hlp5 nlp, dset_upd d5 (ne_kind d5.choose_spec.1 hl5 fun z => nomatch z), upd_same, Paired.snoc ((tk45.trans tk6).tps hlv4) ⟨ag4, rfl, (tk45.trans tk6) _ _ hag4⟩, ?_⟩
            rw [← ea]
            exact Mi.addF_fl hfl4 (hpsva g (List.mem_of_getElem? hgi))
          · have gy : g ∈ L4 := by
              rw [hos] at h3
              by_cases c : g ∈ L4
              · exact c
              · rw [decide_eq_false c] at h3
                exact absurd rfl h3
            have ea : Mi.addF L4 g = L4 := by
              unfold Mi.addF
              rw [if_pos gy]
            rw [ea]
            exact ⟨_, lv4, rfl, s4, tk4, hlp4, ⟨kv, k1, k2, k3⟩, hl4, hlv4, hfl4⟩
        · rintro σ H4 ⟨x5, lv4, rfl, s4, tk4, hlp4, d4, hl4, hlv4, hfl4⟩
          have e4 : pv.length = ps.length := hpvp.length
          rw [e4, List.take_length] at d4 hlv4 hfl4
          obtain ⟨sfx, esfx⟩ := Mi.foldF_pre ps line
          have hm : ∀ g, g ∈ ps.foldl Mi.addF line ↔ g ∈ line ∨ g ∈ ps := fun g => Mi.mem_foldF
          generalize ps.foldl Mi.addF line = line' at *
          refine ⟨_, rfl, _, _, rfl, rfl, 841 - (k + 1), by omega, line', k + 1, _, rfl, rfl, s4, d4, ⟨lv4, hl4, hlv4⟩, hfl4, fun g hg => ?_, (hm f).mpr (.inl hfin), fun g hg => ?_, ?_, fun j g hj hgj p hp => ?_⟩
          · rcases (hm g).mp hg with hg | hg
            · exact hsub g hg
            · exact hPin g hg
          · rcases (hm g).mp hg with hg | hg
            · exact hreach g hg
            · exact .step (hreach e.1 hgm) (by rw [hP]; exact hg)
          · rw [esfx, List.length_append]
            omega
          · have jl : j < line.length := by omega
            have hgj' : line[j]? = some g := by
              rw [esfx, List.getElem?_append_left jl] at hgj
              exact hgj
            by_cases c : j = k
            · subst c
              rw [hg] at hgj'
              rw [← Option.some.inj hgj', hP] at hp
              exact (hm p).mpr (.inr hp)
            · exact (hm p).mpr (.inl (hcl j g (by omega) hgj' p hp))
      · have hpos : ¬ 0 < e.2 := fun z => h2 (decide_eq_true (by omega))
        have hP := premW_zero (n := n) hround hpos
        refine ⟨_, rfl, _, _, rfl, rfl, 841 - (k + 1), by omega, line, k + 1, _, rfl, rfl, sm, hdu, ⟨lv, hl, hlv⟩, hfl, hsub, hfin, hreach, kl, fun j g hj hgj p hp => ?_⟩
        by_cases c : j = k
        · subst c
          rw [hg] at hgj
          rw [← Option.some.inj hgj, hP] at hp
          cases hp
        · exact hcl j g (by omega) hgj p hp
    · have ke : k = line.length := by
        have : ¬ (k : Int) < (lv.length : Int) := fun z => h (decide_eq_true z)
        omega
      have hall : ∀ g, g ∈ line ↔ Mi.Reach (Mi.premW n es) f g := fun g => by
        refine ⟨hreach g, fun hr => ?_⟩
        induction hr with
        | refl => exact hfin
        | step _ hp ih =>
          obtain ⟨j, hj⟩ := List.getElem?_of_mem ih
          exact hcl j _ (by rw [ke]; exact (List.getElem?_eq_some_iff.mp hj).1) hj _ hp
      refine ⟨_, rfl, t, A.ct, dx, _, _, rfl, sm _ _ th.ins, T.k_Theory.cl, T.t_order, rfl, lo, rfl, ⟨ov, SqL.of (sm _ _ o2)⟩, fun D nD => ?_⟩
      refine lc_list (K := K) (a := lo) (xs := ov) (fun i Hx => L2.Same Hc Hx ∧ Ls Hx D (((es.map (·.1)).take i).filter fun g => decide (g ∈ line))) ⟨L2.Same.new nD, [], upd_same, .nil⟩ (fun i Hx _ ⟨z, _⟩ => SqL.of (z _ _ (sm _ _ o2))) ?_ ?_
      · rintro i y Hx hy ⟨s6, vs, hD, hvs⟩
        obtain ⟨g, hgi, hga⟩ := paired_at o3 hy
        obtain ⟨ag, rfl, hag⟩ := (sm.trans s6).tp hga
        obtain ⟨o, ho, hos⟩ := dset_get (s6.dset hdu) hag
        refine ⟨rfl, _, rfl, _, rfl, du, o, rfl, ho, _, rfl, ?_⟩
        rw [take_snoc hgi, List.filter_append]
        refine ite2 (fun h3 => ?_) fun h3 => ?_
        · rw [hos] at h3
          have vl := hvs.length
          have fl1 := List.length_filter_le (fun g => decide (g ∈ line)) ((es.map (·.1)).take i)
          have fl2 : ((es.map (·.1)).take i).length ≤ (es.map (·.1)).length := List.length_take_le' _ _
          refine ⟨_, rfl, vs, hD, small_line (by omega), s6.mut nD, vs ++ [.ref ag], upd_same, ?_⟩
          have tk := tk_lst (o := .lst (vs ++ [.ref ag])) hD
          have e1 : [g].filter (fun g => decide (g ∈ line)) = [g] := by simpa using h3
          rw [e1]
          exact Paired.snoc (tk.tps hvs) ⟨ag, rfl, tk _ _ hag⟩
        · rw [hos] at h3
          have e1 : [g].filter (fun g => decide (g ∈ line)) = [] := by simpa using h3
          rw [e1, List.append_nil]
          exact ⟨s6, vs, hD, hvs⟩
      · rintro Hx ⟨s6, hD⟩
        rw [o3.length, List.take_length] at hD
        exact q Hx D line (sm.trans s6) (sm.free nD) hall hD
end
end G
set_option Elab.async false
set_option maxRecDepth 100000
set_option maxHeartbeats 4000000
namespace G
open PySem PySem.Spec PyProof.Rows L2
open Kh375 (Fact Rule)
theorem and_byH {t u : TT} {σ : L2.St} {H : Hp} {Q : Bool → Hp → Prop} {b1 b2 : Bool} (Gd : Hp → Prop) (h1 : ∀ k : Bool → Hp → Prop, (∀ H', Gd H' → k b1 H') → t σ H k) (h2 : ∀ (k : Bool → Hp → Prop) (H1 : Hp), Gd H1 → (∀ H', Gd H' → k b2 H') → u σ H1 k) (q : ∀ H', Gd H' → Q (b1 && b2) H') : tAnd t u σ H Q := by
  refine h1 _ fun H1 g1 => ?_
  cases b1
  · exact q H1 g1
  · exact h2 _ H1 g1 q
theorem rds_len (fs : List Fact) : (Mi.rdsOf fs).length ≤ 24 * fs.length := by
  have z := Mi.readsOf_len (fs.map fun f => (f, 0))
  rw [Mi.readsOf_is, map_at, List.length_map] at z
  exact z
theorem rds_snoc (fs : List Fact) (f : Fact) : Mi.rdsOf (fs ++ [f]) = Mi.rdsOf fs ++ Mi.readings f := by
  unfold Mi.rdsOf
  rw [List.flatMap_append, List.flatMap_singleton]
theorem cut_to {xs : List V} (i : Nat) : cutV xs none (some (i : Int)) = xs.take i := by
  unfold cutV
  rw [HT.sIx_none, HT.sIx_nat, List.drop_zero, Nat.sub_zero]
  by_cases h : i ≤ xs.length
  · rw [Nat.min_eq_left h]
  · rw [Nat.min_eq_right (by omega), List.take_of_length_le (Nat.le_refl _), List.take_of_length_le (by omega)]
theorem cut_from {xs : List V} (i : Nat) : cutV xs (some (i : Int)) none = xs.drop i := by
  unfold cutV
  rw [HT.sIx_none, HT.sIx_nat]
  by_cases h : i ≤ xs.length
  · rw [Nat.min_eq_left h, List.take_of_length_le (by rw [List.length_drop]; exact Nat.le_refl _)]
  · rw [Nat.min_eq_right (by omega), Nat.sub_self, List.take_zero, List.drop_eq_nil_of_le (by omega)]
theorem paired_take {α β : Type} {F : α → β → Prop} : ∀ {l1 : List α} {l2 : List β}, Paired F l1 l2 → ∀ i, Paired F (l1.take i) (l2.take i)
  | _, _, .nil, i => by rw [List.take_nil, List.take_nil]; exact .nil
  | _, _, .cons _ _, 0 => .nil
  | _, _, .cons h t, i + 1 => .cons h (paired_take t i)
theorem paired_drop {α β : Type} {F : α → β → Prop} : ∀ {l1 : List α} {l2 : List β}, Paired F l1 l2 → ∀ i, Paired F (l1.drop i) (l2.drop i)
  | _, _, .nil, i => by rw [List.drop_nil, List.drop_nil]; exact .nil
  | _, _, .cons h t, 0 => .cons h t
  | _, _, .cons _ t, i + 1 => paired_drop t i
section
variable {P : Program} {w : World} {K : PySem.W.Frag} {mg : Str → Option Value} {base : Heap} {A : Ad}
/-! correct_count: slots 0 many, 1 hypotheses, 2 facts, 3 given, 4 at, 5 fact, 6 reading -/
abbrev s_correct_count : Stmt := topS 53
abbrev N_correct_count : List Str := ["many", "hypotheses", "facts", "given", "at", "fact", "reading"]
theorem sc_correct_count : FnScope N_correct_count ["many", "hypotheses", "facts"] (defScope s_correct_count) := C8.fnScope_by (by decide +kernel)
def sp_correct_count : Sp := fun vs H Q _ => ∃ (n : Nat) (lh lf : Addr) (hyps facts : List Fact), vs = [vN n, .ref lh, .ref lf] ∧ Ls H lh hyps ∧ Ls H lf facts ∧ (∀ f ∈ facts, Mi.Va n f) ∧ n ≤ 7 ∧ facts.length ≤ 100000 ∧
  ∀ H', L2.Same H H' → Q (vN (Kh375.correctLines ⟨n, hyps⟩ [] facts)) H'
theorem c_correct_count (T : Txt K mg A) : C8.Cal P w K mg base 6 "correct_count" sp_correct_count [] := by
  obtain ⟨f, fd, F, b⟩ := T.d_correct_count.ex
  refine C8.cal0 F b .nil sc_correct_count ?_ ?_
  · rintro vs H Q E ⟨n, lh, lf, hyps, facts, rfl, _⟩
    rfl
  · rintro cdv _ outer s H vs Q E hr ⟨n, lh, lf, hyps, facts, rfl, hlh, ⟨fv, hlf, hfv⟩, hva, h7, hlen, q⟩
    have fvl : fv.length = facts.length := hfv.length
    refine ⟨_, (pss_cons (ps_set (i := 3) sc_correct_count.nd rfl (Or.inl rfl) pe_dnewT)
        (pss_cons (ps_for PassesOwn.never rfl (pi_enum rfl T.n_enumerate (pa_cons (pv 2) pa_nil)) (pg_tup rfl (pgs_cons (pg_name (i := 4) sc_correct_count.nd rfl (Or.inl rfl)) (pgs_cons (pg_name (i := 5) sc_correct_count.nd rfl (Or.inl rfl)) pgs_nil)))
        (pss_cons (ps_if (PW.pt (pw_and (pt_cmpR (op_notInD (hu65 hr)) (pv 5) (pv 1) rfl) (pw_and1 (pt_not (pt_val (C8.pe_c (c_is_derived T) hr (by decide) rfl (pa_cons (pv 0) (pa_cons (pv 5) (pa_cons (pv 3) pa_nil))))))))) (pss_one (ps_ret (pv 4))) pss_nil)
        (pss_one (ps_for PassesOwn.never rfl (pi_list (C8.pe_c (c_readings T) hr (by decide) rfl (pa_cons (pv 5) pa_nil))) (pg_name (i := 6) sc_correct_count.nd rfl (Or.inl rfl))
        (pss_one (ps_dput (hu_of hr) (pv 3) (pv 6) pe_bl rfl))))))
        (pss_one (ps_ret (pe_callB call_len_seq rfl T.n_len PySem.boot_len (pa_cons (pv 2) pa_nil)))))), ?_⟩
    refine fun d nd => ?_
    have m0 : L2.Same H (upd H d (.dT [])) := L2.Same.new nd
    have d0 : DSet (upd H d (.dT [])) d [] := dset_nil upd_same
    generalize upd H d (.dT []) = H1 at *
    refine ⟨_, rfl, lf, fv, rfl, SqL.of (m0 _ _ hlf), for_it (walk_enum (K := K) (a := lf) (xs := fv)) (fun i σ Hc => ∃ x4 x5 x6, σ = [some (vN n), some (.ref lh), some (.ref lf), some (.ref d), x4, x5, x6] ∧ L2.Same H Hc ∧ DSet Hc d (Mi.rdsOf (facts.take i)) ∧ Kh375.correctLines ⟨n, hyps⟩ [] facts = i + Kh375.correctLines ⟨n, hyps⟩ (facts.take i) (facts.drop i))
      ⟨none, none, none, rfl, m0, d0, by simp⟩ (fun i σ Hc _ ⟨_, _, _, _, z, _⟩ => SqL.of (z _ _ hlf)) ?_ ?_⟩
    · rintro i x σ Hc _ hi ⟨x4, x5, x6, rfl, sm, hd, hc⟩ ⟨Tq, y1, y, rfl, nT, rfl, ey, hy⟩
      obtain rfl := Option.some.inj ey
      obtain ⟨fc, hfc, hfa⟩ := paired_at hfv hy
      have va := hva fc (List.mem_of_getElem? hfc)
      have hvt : ∀ f ∈ facts.take i, Mi.Va n f := fun f hf => hva f (List.mem_of_mem_take hf)
      refine ⟨Tq, _, rfl, SqT.of upd_same, rfl, _, _, rfl, _, _, rfl, rfl, ?_⟩
      (generalize hgen : upd _ _ _ = H2; have m2 := grow_same hgen nT; have t2 := grow_at hgen; clear hgen)
      have S2 := sm.trans m2
      obtain ⟨ac, rfl, hac⟩ := S2.tp hfa
      have hstep : Kh375.correctLines ⟨n, hyps⟩ (facts.take i) (facts.drop i) = if Kh375.isCorrectLine ⟨n, hyps⟩ (facts.take i) fc then Kh375.correctLines ⟨n, hyps⟩ (facts.take (i + 1)) (facts.drop (i + 1)) + 1 else 0 := by
        obtain ⟨il, e⟩ := List.getElem?_eq_some_iff.mp hfc
        rw [List.drop_eq_getElem_cons il, e, take_snoc hfc]
        rfl
      refine seq_if ?_
      refine (and_byH (b1 := !decide (fc ∈ hyps)) (b2 := !(Kh375.rules.any fun rl => (Mi.firstAsg n rl fc (Mi.rdsOf (facts.take i))).isSome)) (fun H' => L2.Same H2 H') ?_ ?_ ?_)
      · intro k hk
        refine ⟨_, rfl, _, rfl, _, _, dp_dF ⟨ac, rfl, hac⟩, dp_ls (S2.ls hlh), shaped_dF _, shaped_dFs _, _, rfl, ?_⟩
        rw [any_dF]
        exact hk _ fun _ _ z => z
      · intro k H3 m3 hk
        exact ⟨_, rfl, _, rfl, _, rfl, n, _, d, fc, _, rfl, ⟨ac, rfl, m3 _ _ hac⟩, va.nf, h7, (m2.trans m3).dset hd, fun H4 m4 => ⟨_, rfl, hk _ (m3.trans m4)⟩⟩
      · intro H3 m3
        rw [Mi.follows_is h7 hvt va]
        have hcl : Kh375.isCorrectLine ⟨n, hyps⟩ (facts.take i) fc = (decide (fc ∈ hyps) || Kh375.followsByRule n (facts.take i) fc) := by
          unfold Kh375.isCorrectLine
          congr 1
          rw [Bool.eq_iff_iff, List.contains_iff_mem, decide_eq_true_eq]
        refine ite2 (fun h => ?_) fun h => ?_
        · have e0 : Kh375.isCorrectLine ⟨n, hyps⟩ (facts.take i) fc = false := by
            rw [hcl]
            cases h1 : decide (fc ∈ hyps) <;> cases h2 : Kh375.followsByRule n (facts.take i) fc <;> simp [h1, h2] at h ⊢
          have z := q H3 (S2.trans m3)
          rw [hc, hstep, e0] at z
          exact ⟨_, rfl, z⟩
        · have e1 : Kh375.isCorrectLine ⟨n, hyps⟩ (facts.take i) fc = true := by
            rw [hcl]
            cases h1 : decide (fc ∈ hyps) <;> cases h2 : Kh375.followsByRule n (facts.take i) fc <;> simp [h1, h2] at h ⊢
          rw [if_pos e1] at hstep
          refine ⟨_, rfl, _, fc, rfl, ⟨ac, rfl, m3 _ _ hac⟩, va.nf, fun H4 p us m4 np hp hus => ?_⟩
          have S4 := (m2.trans m3).trans m4
          obtain ⟨kv4, hd4, _⟩ := S4.dset hd
          have r24 : (Mi.readings fc).length ≤ 24 := by
            unfold Mi.readings
            rw [List.length_map]
            exact Mi.orders_len _
          have rl := rds_len (facts.take i)
          have tl : (facts.take i).length ≤ facts.length := List.length_take_le' _ _
          refine ⟨p, rfl, ⟨us, SqL.of hp⟩, for_list (K := K) (a := p) (xs := us) (fun j σ H5 => ∃ x6, σ = [some (vN n), some (.ref lh), some (.ref lf), some (.ref d), some (.int i), some (.ref ac), x6] ∧ SameX d H4 H5 ∧ DSet H5 d (Mi.rdsOf (facts.take i) ++ (Mi.readings fc).take j))
            ⟨x6, rfl, SameX.refl, by simpa using S4.dset hd⟩ (fun j σ H5 _ ⟨_, _, z, _⟩ => SqL.of (z _ _ (ne_kind hp hd4 fun z => nomatch z) hp)) ?_ ?_⟩
          · rintro j y σ H5 hy ⟨x6, rfl, sx, ⟨kv, k1, k2, k3⟩⟩
            obtain ⟨rd, hrd, ard, rfl, hra⟩ := paired_at hus hy
            have hra3 := sx _ _ (ne_kind hra hd4 fun z => nomatch z) hra
            have tl2 : ((Mi.readings fc).take j).length ≤ 24 := Nat.le_trans (List.length_take_le' _ _) r24
            refine ⟨_, rfl, _, rfl, d, _, rfl, DPut.t k1 (by rw [keyF_kV]; exact hra3) (small_line ?_), ?_⟩
            · rw [List.length_append] at k2
              omega
            · refine ⟨_, rfl, sx.put, ?_⟩
              rw [take_snoc hrd, ← List.append_assoc]
              exact ⟨_, upd_same, dset_put k2 k3 rd (.bl true)⟩
          · rintro σ H5 ⟨x6, rfl, sx, hd5⟩
            have e2 : us.length = (Mi.readings fc).length := hus.length
            rw [e2, List.take_length] at hd5
            refine ⟨_, _, _, rfl, sx.base (S2.trans (m3.trans m4)) nd, ?_, ?_⟩
            · rw [take_snoc hfc, rds_snoc]
              exact hd5
            · rw [hc, hstep]
              omega
    · rintro σ Hc ⟨x4, x5, x6, rfl, sm, hd, hc⟩
      refine ⟨_, rfl, lf, fv, rfl, .inl (SqL.of (sm _ _ hlf)), ?_⟩
      have z := q Hc sm
      rw [hc, fvl, List.drop_length] at z
      have e0 : facts.length + Kh375.correctLines ⟨n, hyps⟩ (facts.take facts.length) [] = fv.length := by rw [fvl]; rfl
      rw [e0] at z
      exact z
end
end G
set_option Elab.async false
set_option maxRecDepth 100000
set_option maxHeartbeats 4000000
namespace G
open PySem PySem.Spec PyProof.Rows L2
open Kh375 (Fact Rule)
/-- a theory of these hypotheses -/
abbrev KnE (n : Nat) (hyps : List Fact) : List (Fact × Nat) := (Kh375.knownEntries ⟨n, hyps⟩).map Mi.pr
theorem kn_facts (n : Nat) (hyps : List Fact) : (KnE n hyps).map (·.1) = (Kh375.knownEntries ⟨n, hyps⟩).map fun e => e.fact := Mi.pr_facts _
theorem kn_fl {n : Nat} (h7 : n ≤ 7) {hyps : List Fact} (h : Mi.Fl n hyps) : Mi.Fl n ((KnE n hyps).map (·.1)) := by
  rw [kn_facts]
  exact (Mi.known_closed h7 h).1
theorem fl_erase {n : Nat} {hyps : List Fact} (h : Mi.Fl n hyps) (i : Nat) : Mi.Fl n (hyps.eraseIdx i) := ⟨h.nd.sublist (List.eraseIdx_sublist hyps i), fun f hf => h.va f (List.mem_of_mem_eraseIdx hf)⟩
theorem round_some {es : List (Fact × Nat)} {f : Fact} : (Mi.roundIn es f).isSome = decide (f ∈ es.map (·.1)) := by
  unfold Mi.roundIn
  rw [Option.isSome_map, Bool.eq_iff_iff, List.find?_isSome, decide_eq_true_eq, List.mem_map]
  constructor
  · rintro ⟨e, he, z⟩
    exact ⟨e, he, of_decide_eq_true z⟩
  · rintro ⟨e, he, rfl⟩
    exact ⟨e, he, by simp⟩
section
variable {P : Program} {w : World} {K : PySem.W.Frag} {mg : Str → Option Value} {base : Heap} {A : Ad}
/-! needed: slots 0 many, 1 hypotheses, 2 theory, 3 fact, 4 used, 5 found, 6 at, 7 hypothesis, 8 others -/
abbrev s_needed : Stmt := topS 54
abbrev N_needed : List Str := ["many", "hypotheses", "theory", "fact", "used", "found", "at", "hypothesis", "others"]
theorem sc_needed : FnScope N_needed ["many", "hypotheses", "theory", "fact"] (defScope s_needed) := C8.fnScope_by (by decide +kernel)
def sp_needed (A : Ad) : Sp := fun vs H Q _ => ∃ (n : Nat) (lh t : Addr) (vf : V) (f : Fact) (hyps : List Fact) (Hz : Hp), vs = [vN n, .ref lh, .ref t, vf] ∧ Ls H lh hyps ∧ Mi.Fl n hyps ∧ ThAt A Hz H t n (KnE n hyps) ∧ 0 < n ∧ n ≤ 7 ∧ Tp H vf f ∧ f ∈ (KnE n hyps).map (·.1) ∧
  ∀ H' p, L2.Same H H' → H p = none → LN H' p (Kh375.neededHypotheses ⟨n, hyps⟩ f) → Q (.ref p) H'
theorem c_needed (T : Txt K mg A) : C8.Cal P w K mg base 9 "needed" (sp_needed A) [] := by
  obtain ⟨f, fd, F, b⟩ := T.d_needed.ex
  refine C8.cal0 F b .nil sc_needed ?_ ?_
  · rintro vs H Q E ⟨n, lh, t, vf, f, hyps, Hz, rfl, _⟩
    rfl
  · rintro cdv _ outer s H vs Q E hr ⟨n, lh, t, _, f, hyps, Hz, rfl, hlh0, hfl, hth, h0, h7, ⟨af, rfl, haf⟩, hmem, q⟩
    obtain ⟨hv, hlh, hhv⟩ := id hlh0
    have hes := kn_fl h7 hfl
    obtain ⟨r, inv⟩ := Mi.known_inv h7 h0 hfl
    have hfew := hfl.few h7
    have hvl : hv.length = hyps.length := hhv.length
    refine ⟨_, (pss_cons (ps_set (i := 4) sc_needed.nd rfl (Or.inl rfl) (C8.pe_c (c_proof_of T) hr (by decide) rfl (pa_cons (pv 2) (pa_cons (pv 3) pa_nil))))
        (pss_cons (ps_set (i := 5) sc_needed.nd rfl (Or.inl rfl) (pe_lst pa_nil))
        (pss_cons (ps_for PassesOwn.never rfl (pi_enum rfl T.n_enumerate (pa_cons (pv 1) pa_nil)) (pg_tup rfl (pgs_cons (pg_name (i := 6) sc_needed.nd rfl (Or.inl rfl)) (pgs_cons (pg_name (i := 7) sc_needed.nd rfl (Or.inl rfl)) pgs_nil)))
        (pss_one (ps_if (pt_cmpR (op_inD (hu65 hr)) (pv 7) (pv 4) rfl) (pss_cons (ps_set (i := 8) sc_needed.nd rfl (Or.inl rfl) (pe_op op_cat (pe_slice sl_list (pv 1) po_none (po_some (pv 6))) (pe_slice sl_list (pv 1) (po_some (pe_op op_add (pv 6) pe_int)) po_none)))
        (pss_one (ps_if (pt_cmp (pc_dnotin (hu_of hr) (pv 3) (pe_fld (C8.pe_c (c_theory_of T) hr (by decide) rfl (pa_cons (pv 0) (pa_cons (pv 8) pa_nil))) rfl)) rfl) (pss_one (ps_expr (pe_bm PySem.F.plainAttrs_list PySem.F.slot_list_append PySem.F.type_list_append mt_append (pv 5) (pa_cons (pv 6) pa_nil)))) pss_nil))) pss_nil)))
        (pss_one (ps_ret (pv 5)))))), ?_⟩
    refine ⟨_, rfl, _, rfl, t, _, n, f, KnE n hyps, Hz, rfl, hth, hes, h7, ⟨af, rfl, haf⟩, hmem, fun H1 pu line m1 npu hline hpu => ?_⟩
    refine ⟨Nat.zero_le _, fun l nl => ?_⟩
    (generalize hgen : upd _ _ _ = H2; have m2 := grow_same hgen nl; have t2 := grow_at hgen; clear hgen)
    have S2 := m1.trans m2
    have nlH : H l = none := m1.free nl
    refine ⟨_, rfl, lh, hv, rfl, SqL.of (S2 _ _ hlh), for_it (walk_enum (K := K) (a := lh) (xs := hv)) (fun i σ Hc => ∃ x6 x7 x8, σ = [some (vN n), some (.ref lh), some (.ref t), some (.ref af), some (.ref pu), some (.ref l), x6, x7, x8] ∧ L2.Same H1 Hc ∧ LN Hc l ((List.range i).filter fun i => Kh375.contains (Kh375.knownEntries ⟨n, hyps.eraseIdx i⟩) f == false))
      ⟨none, none, none, rfl, m2, t2⟩ (fun i σ Hc _ ⟨_, _, _, _, z, _⟩ => SqL.of ((m1.trans z) _ _ hlh)) ?_ ?_⟩
    · rintro i x σ Hc _ hi ⟨x6, x7, x8, rfl, sm, hl⟩ ⟨Tq, y1, y, rfl, nT, rfl, ey, hy⟩
      obtain rfl := Option.some.inj ey
      obtain ⟨h, hh, hha⟩ := paired_at hhv hy
      have hhm := List.mem_of_getElem? hh
      refine ⟨Tq, _, rfl, SqT.of upd_same, rfl, _, _, rfl, _, _, rfl, rfl, ?_⟩
      (generalize hgen : upd _ _ _ = H3; have m3 := grow_same hgen nT; have t3 := grow_at hgen; clear hgen)
      have S3 := sm.trans m3
      have S03 := m1.trans S3
      obtain ⟨ah, rfl, hah⟩ := S03.tp hha
      have hl3 := m3 _ _ hl
      have frange : ((List.range i).filter fun i => Kh375.contains (Kh375.knownEntries ⟨n, hyps.eraseIdx i⟩) f == false).length ≤ i := by
        have := List.length_filter_le (fun i => Kh375.contains (Kh375.knownEntries ⟨n, hyps.eraseIdx i⟩) f == false) (List.range i)
        rw [List.length_range] at this
        exact this
      refine ⟨_, rfl, _, rfl, _, _, dp_dF ⟨ah, rfl, hah⟩, dp_ls (S3.ls hpu), shaped_dF _, shaped_dFs _, _, rfl, ?_⟩
      rw [any_dF]
      have hkn : h ∈ (KnE n hyps).map (·.1) := by
        rw [kn_facts]
        exact (Mi.known_closed h7 hfl).2.2 h hhm
      refine ite2 (fun hu => ?_) fun hu => ?_
      · have eI : hyps.take i ++ hyps.drop (i + 1) = hyps.eraseIdx i := (List.eraseIdx_eq_take_drop_succ hyps i).symm
        refine ⟨_, rfl, _, rfl, _, rfl, lh, hv, rfl, SqL.of (S03 _ _ hlh), fun l1 n1 => ?_⟩
        rw [cut_to]
        (generalize hgen : upd _ _ _ = H4; have m4 := grow_same hgen n1; have t4 := grow_at hgen; clear hgen)
        refine ⟨_, rfl, _, rfl, _, _, rfl, rfl, _, rfl, lh, hv, rfl, SqL.of ((S03.trans m4) _ _ hlh), fun l2 n2 => ?_⟩
        rw [show cutV hv (some ((i : Int) + 1)) none = hv.drop (i + 1) from cut_from (i + 1)]
        (generalize hgen : upd _ _ _ = H5; have m5 := grow_same hgen n2; have t5 := grow_at hgen; clear hgen)
        refine ⟨l1, l2, _, _, rfl, rfl, m5 _ _ t4, t5, small_lineE ?_, fun l3 n3 => ?_⟩
        · rw [List.length_take, List.length_drop]
          omega
        (generalize hgen : upd _ _ _ = H6; have m6 := grow_same hgen n3; have t6 := grow_at hgen; clear hgen)
        have S06 := ((S03.trans m4).trans m5).trans m6
        have hoth : Ls H6 l3 (hyps.eraseIdx i) := ⟨_, t6, by
          rw [← eI]
          exact paired_app (S06.tps (paired_take hhv i)) (S06.tps (paired_drop hhv (i + 1)))⟩
        refine ⟨_, rfl, _, rfl, _, rfl, n, l3, hyps.eraseIdx i, rfl, hoth, fl_erase hfl i, h0, h7, fun H7 t' es' m7 th' run => ?_⟩
        have ees := (Mi.run_spec h7 h0 (fl_erase hfl i) run).1
        obtain ⟨dx', lo', dr', dk', ds', L', th''⟩ := th'
        obtain ⟨rv', r2', _, r4'⟩ := th''.rounds
        have S07 := S06.trans m7
        have hdg : DGet H7 dr' (.ref af) ((Mi.roundIn es' f).map vN) := by
          have z := DGet.t r2' (by rw [keyF_kV]; exact S07 _ _ haf : H7 af = some (.tup ((keyF f).map kV)))
          rw [r4'] at z
          exact z
        have hso : ((Mi.roundIn es' f).map vN).isSome = Kh375.contains (Kh375.knownEntries ⟨n, hyps.eraseIdx i⟩) f := by
          rw [Option.isSome_map, round_some, ees, Mi.pr_facts, Bool.eq_iff_iff, decide_eq_true_eq, Mi.contains_iff]
        refine ⟨t', A.ct, dx', _, _, rfl, th''.ins, T.k_Theory.cl, T.t_rounds, rfl, dr', _, rfl, hdg, _, rfl, ?_⟩
        rw [hso]
        have hl7 := (((m4.trans m5).trans m6).trans m7) _ _ hl3
        have S7 := S3.trans (((m4.trans m5).trans m6).trans m7)
        refine ite2 (fun h3 => ?_) fun h3 => ?_
        · refine ⟨_, rfl, .inl ⟨rfl, _, SqL.of hl7⟩, _, rfl, l, _, _, rfl, rfl, hl7, ?_, ?_⟩
          · refine small_line ?_
            rw [List.length_map]
            have : i < hv.length := hi
            omega
          · refine ⟨_, _, _, rfl, S7.mut nl, ?_⟩
            show upd _ _ _ _ = _
            rw [upd_same, List.range_succ, List.filter_append]
            have : [i].filter (fun i => Kh375.contains (Kh375.knownEntries ⟨n, hyps.eraseIdx i⟩) f == false) = [i] := by simpa using h3
            rw [this, List.map_append]
            rfl
        · refine ⟨_, _, _, rfl, S7, ?_⟩
          rw [List.range_succ, List.filter_append]
          have : [i].filter (fun i => Kh375.contains (Kh375.knownEntries ⟨n, hyps.eraseIdx i⟩) f == false) = [] := by simpa using h3
          rw [this, List.append_nil]
          exact hl7
      · have hnl : h ∉ line := fun z => hu (decide_eq_true (List.mem_filter.mpr ⟨hkn, decide_eq_true z⟩))
        have hnr : ¬ Mi.Reach (Mi.premE (Kh375.knownEntries ⟨n, hyps⟩)) f h := fun z => hnl ((hline h).mpr ((Mi.reach_congr (Mi.premW_is h7 inv)).mpr z))
        have hyes : Kh375.contains (Kh375.knownEntries ⟨n, hyps.eraseIdx i⟩) f = true := by
          rw [Mi.contains_iff]
          refine Mi.not_needed h7 h0 hfl (fl_erase hfl i) (fun g hg hne => ?_) (by rw [← kn_facts]; exact hmem) hnr
          obtain ⟨j, hj⟩ := List.getElem?_of_mem hg
          have hji : j ≠ i := fun z => by
            rw [z, hh] at hj
            exact hne (Option.some.inj hj).symm
          rw [List.mem_eraseIdx_iff_getElem?]
          exact ⟨j, hji, hj⟩
        refine ⟨_, _, _, rfl, S3, ?_⟩
        rw [List.range_succ, List.filter_append]
        have : [i].filter (fun i => Kh375.contains (Kh375.knownEntries ⟨n, hyps.eraseIdx i⟩) f == false) = [] := by simp [hyes]
        rw [this, List.append_nil]
        exact hl3
    · rintro σ Hc ⟨x6, x7, x8, rfl, sm, hl⟩
      rw [hvl] at hl
      exact ⟨_, rfl, q Hc l (m1.trans sm) nlH hl⟩
end
end G
/-! facts that are passed. -/
namespace Mi
open Kh375
theorem parse_big {p : Problem} {k : Nat} {ns : List Nat} (h : 6 < k) : parseFact p k ns = none := by
  unfold parseFact
  rw [if_pos (.inl (by show 7 ≤ k; omega))]
theorem norm_len {k : Nat} {ns : List Nat} (h : ns.length ≠ pointCounts.getD k 0) : normalize ⟨k, ns⟩ = none := by
  unfold normalize
  rw [if_pos h]
theorem parse_len {p : Problem} {k : Nat} {ns : List Nat} (h : ns.length ≠ pointCounts.getD k 0) : parseFact p k ns = none := by
  unfold parseFact
  split
  · rfl
  · exact norm_len h
theorem parse_out {p : Problem} {k : Nat} {ns : List Nat} (h : (ns.all fun i => decide (i < p.pointCount)) = false) : parseFact p k ns = none := by
  unfold parseFact
  rw [if_pos (.inr h)]
theorem parse_in {p : Problem} {k : Nat} {ns : List Nat} (hk : k < 7) (h : (ns.all fun i => decide (i < p.pointCount)) = true) : parseFact p k ns = normalize ⟨k, ns⟩ := by
  unfold parseFact
  rw [if_neg]
  rintro (z | z)
  · have : 7 ≤ k := z
    omega
  · rw [h] at z
    cases z
theorem parse_va {p : Problem} {k : Nat} {ns : List Nat} {f : Fact} (h : parseFact p k ns = some f) : Va p.pointCount f := by
  unfold parseFact at h
  split at h
  · cases h
  · rename_i c
    have hk : k < 7 := by
      by_cases d : 7 ≤ k
      · exact absurd (.inl d) c
      · omega
    have ha : (ns.all fun i => decide (i < p.pointCount)) = true := by
      cases e : ns.all fun i => decide (i < p.pointCount) with
      | true => rfl
      | false => exact absurd (.inr e) c
    refine va_norm (g := ⟨k, ns⟩) hk (fun q hq => ?_) h
    exact of_decide_eq_true (List.all_eq_true.mp ha q hq)
end Mi
set_option Elab.async false
set_option maxRecDepth 100000
set_option maxHeartbeats 4000000
namespace G
open PySem PySem.Spec PyProof.Rows L2
open Kh375 (Fact Rule)
/-- a problem: its address, its list of hypotheses; H0: a heap that knows neither -/
structure PrIs (A : Ad) (H0 H : Hp) (pa : Addr) (n : Nat) (hyps : List Fact) (dx lh : Addr) (u : V) : Prop where
  ins : H pa = some (.ins A.cp dx [("many", vN n), ("hypotheses", .ref lh), ("theory", u)])
  hyp : Ls H lh hyps
  fl : Mi.Fl n hyps
  n2 : 2 ≤ n
  n7 : n ≤ 7
  few : hyps.length ≤ 16
  th : u = .non ∨ ∃ t, u = .ref t ∧ ThAt A H0 H t n (KnE n hyps)
  fpa : H0 pa = none
  flh : H0 lh = none
def PrAt (A : Ad) (H0 H : Hp) (pa : Addr) (p : Kh375.Problem) : Prop := ∃ dx lh u, PrIs A H0 H pa p.pointCount p.hypotheses dx lh u
theorem PrIs.same {A : Ad} {H0 H H' : Hp} {pa : Addr} {n : Nat} {hyps : List Fact} {dx lh : Addr} {u : V} (h : PrIs A H0 H pa n hyps dx lh u) (e : L2.Same H H') : PrIs A H0 H' pa n hyps dx lh u :=
  { h with ins := e _ _ h.ins, hyp := e.ls h.hyp, th := h.th.imp id fun ⟨t, e1, e2⟩ => ⟨t, e1, e2.same e⟩ }
theorem ThIs.keep {A : Ad} {H0 H : Hp} {t : Addr} {n : Nat} {os : List Fact} {rs : List (Fact × Nat)} {kn sr : List Fact} {dx lo dr dk ds : Addr} {L : Nat → Nat → Nat → Option Addr} {x : Addr} {o o' : HO} (h : ThIs A H0 H t n os rs kn sr dx lo dr dk ds L) (hx : H x = some o) (nt : ∀ xs, o ≠ .tup xs) (h0 : H0 x ≠ none) : ThIs A H0 (upd H x o') t n os rs kn sr dx lo dr dk ds L := by
  have ne : ∀ a, H0 a = none → a ≠ x := fun a e z => h0 (by rw [← z]; exact e)
  obtain ⟨r1, r2, r3⟩ := h.rounds
  obtain ⟨s1, s2, s3⟩ := h.starts
  exact { h with ins := (upd_ne (ne _ h.ft)).trans h.ins, order := ls_upd h.order hx nt (ne _ h.flo), rounds := ⟨r1, (upd_ne (ne _ h.fdr)).trans r2, r3⟩, known := dset_upd h.known (ne _ h.fdk), starts := ⟨s1, (upd_ne (ne _ h.fds)).trans s2, s3⟩, has := fun k a b l z => ls_upd (h.has k a b l z) hx nt (ne _ (h.fL k a b l z)) }
/-- a row of ints -/
abbrev LI (H : Hp) (a : Addr) (ns : List Int) : Prop := H a = some (.lst (ns.map V.int))
section
variable {P : Program} {w : World} {K : PySem.W.Frag} {mg : Str → Option Value} {base : Heap} {A : Ad}
def OpF (n : Nat) (H : Hp) (x : V) (o : Option Fact) : Prop := match o with
  | none => x = .non
  | some f => Tp H x f ∧ Mi.Va n f
/-! fact_of: slots 0 problem, 1 kind, 2 points, 3 point -/
abbrev s_fact_of : Stmt := topS 59
abbrev N_fact_of : List Str := ["problem", "kind", "points", "point"]
theorem sc_fact_of : FnScope N_fact_of ["problem", "kind", "points"] (defScope s_fact_of) := C8.fnScope_by (by decide +kernel)
def sp_fact_of (A : Ad) : Sp := fun vs H Q _ => ∃ (pa a : Addr) (k n : Nat) (ns : List Nat) (hyps : List Fact) (dx lh : Addr) (u : V) (H0 : Hp), vs = [.ref pa, vN k, .ref a] ∧ PrIs A H0 H pa n hyps dx lh u ∧ LN H a ns ∧ ns.length ≤ 1000 ∧
  ∀ H' x, L2.Same H H' → OpF n H' x (Kh375.parseFact ⟨n, hyps⟩ k ns) → Q x H'
theorem c_fact_of (T : Txt K mg A) : C8.Cal P w K mg base 3 "fact_of" (sp_fact_of A) [] := by
  obtain ⟨f, fd, F, b⟩ := T.d_fact_of.ex
  refine C8.cal0 F b .nil sc_fact_of ?_ ?_
  · rintro vs H Q E ⟨pa, a, k, n, ns, hyps, dx, lh, u, H0, rfl, _⟩
    rfl
  · rintro cdv _ outer s H vs Q E hr ⟨pa, a, k, n, ns, hyps, dx, lh, u, H0, rfl, hp, ha, hlen, q⟩
    refine ⟨_, (pss_cons (ps_if (PW.pt (pw_or (pt_cmpR op_gt (pv 1) (C8.pe_gc rfl T.g_MOST_KIND) (nomark _)) (pw_or1 (pt_cmpR op_ne (pe_callB call_len_seq rfl T.n_len PySem.boot_len (pa_cons (pv 2) pa_nil)) (pe_ix ix_tup (C8.pe_gc rfl T.g_SIZES) (pv 1) (fun _ _ => rfl)) (nomark _))))) (pss_one (ps_ret pe_non)) pss_nil)
        (pss_cons (ps_if (PW.pt (pw_or (pt_not (pt_val (pe_callB (cr_all rfl) rfl T.n_all (by decide +kernel) (pa_cons (pe_lc (own := [("point", 3)]) (g := gName 3) (by rfl) sc_fact_of.nd (pi_list (pv 2)) (blkOk_by (own := [("point", 3)]) (N := N_fact_of) (sc := defScope s_fact_of) (by decide +kernel)) (fun _ _ _ _ _ => pg_name (i := 3) sc_fact_of.nd rfl (Or.inl rfl)) (fun _ _ _ _ _ => pts_nil) (fun _ _ _ _ _ => (pe_chain op_le op_lt pe_int (pv 3) (pe_fldK K rfl (pv 0) rfl)))) pa_nil)))) (pw_or1 (pt_val (C8.pe_c (c_is_degenerate T) hr (by decide) rfl (pa_cons (pv 1) (pa_cons (pv 2) pa_nil))))))) (pss_one (ps_ret pe_non)) pss_nil)
        (pss_one (ps_ret (C8.pe_c (c_normal T) hr (by decide) rfl (pa_cons (pv 1) (pa_cons (pv 2) pa_nil))))))), ?_⟩
    refine ⟨_, rfl, _, _, rfl, rfl, _, rfl, ite2 (fun h => iteT (q H _ (fun _ _ z => z) ?_)) fun h => ?_⟩
    · rw [Mi.parse_big (by have := of_decide_eq_true h; omega)]
      rfl
    have hk : k < 7 := by
      have : ¬ (6 : Int) < (k : Int) := fun z => h (decide_eq_true z)
      omega
    refine ⟨_, rfl, a, _, rfl, .inl (SqL.of ha), _, rfl, A.sizes, _, _, _, rfl, rfl, T.sizes H, at_nat hk, rfl, _, rfl, ite2 (fun h => q H _ (fun _ _ z => z) ?_) fun h => ?_⟩
    · rw [Mi.parse_len fun z => ?_]
      · rfl
      · rw [List.length_map, z] at h
        simp at h
    have hl : ns.length = Kh375.pointCounts.getD k 0 := by
      by_cases c : ns.length = Kh375.pointCounts.getD k 0
      · exact c
      · refine absurd ?_ h
        rw [List.length_map]
        have : ¬ (V.int (ns.length : Int)) = vN (Kh375.pointCounts.getD k 0) := fun z => c (by have := V.int.inj z; omega)
        rw [decide_eq_false this]
        rfl
    -- all([..])
    refine ⟨_, rfl, a, rfl, ⟨_, SqL.of ha⟩, fun D nD => ?_⟩
    refine lc_list (K := K) (a := a) (xs := ns.map vN) (fun i Hx => L2.Same H Hx ∧ Hx D = some (.lst (((ns.take i).map fun p => decide (p < n)).map V.bl))) ⟨L2.Same.new nD, upd_same⟩ (fun i Hx _ ⟨z, _⟩ => SqL.of (z _ _ ha)) ?_ ?_
    · rintro i y Hx hy ⟨sm, hD⟩
      obtain ⟨p, hpp, rfl⟩ := map_get hy
      refine ⟨rfl, _, rfl, _, _, rfl, rfl, _, rfl, ite2 (fun _ => ?_) fun h => absurd (decide_eq_true (Int.natCast_nonneg p)) h⟩
      refine ⟨_, rfl, pa, A.cp, dx, _, _, rfl, sm _ _ hp.ins, T.k_Problem.cl, T.p_many, rfl, _, _, rfl, rfl, _, hD, ?_, sm.mut nD, ?_⟩
      · refine small_line ?_
        rw [List.length_map, List.length_map, List.length_take]
        omega
      · rw [upd_same, take_snoc hpp]
        dsimp only
        rw [dec_lt]
        simp
    · rintro Hx ⟨sm, hD⟩
      rw [List.length_map, List.take_length] at hD
      refine ⟨D, _, rfl, SqL.of hD, _, rfl, ?_⟩
      have eall : ((ns.map fun p => decide (p < n)).all id) = (ns.all fun p => decide (p < n)) := by
        rw [List.all_map]
        rfl
      rw [eall]
      refine ite2 (fun h => iteT (q Hx _ sm ?_)) fun h => ?_
      · rw [Mi.parse_out (by simpa using h)]
        rfl
      have hin : (ns.all fun p => decide (p < n)) = true := by
        cases e : ns.all fun p => decide (p < n) with
        | true => rfl
        | false => rw [e] at h; exact absurd rfl h
      have hpf : Kh375.parseFact ⟨n, hyps⟩ k ns = Kh375.normalize ⟨k, ns⟩ := Mi.parse_in hk hin
      refine ⟨_, rfl, _, rfl, k, a, ns, rfl, sm _ _ ha, hk, hl, fun H1 m1 => ⟨_, rfl, ite2 (fun h => q H1 _ (sm.trans m1) ?_) fun h => ?_⟩⟩
      · rw [hpf, Option.isNone_iff_eq_none.mp h]
        rfl
      · cases e : Kh375.normalize ⟨k, ns⟩ with
        | none => rw [e] at h; exact absurd rfl h
        | some g =>
          refine ⟨_, rfl, _, rfl, k, a, ns, g, rfl, (sm.trans m1) _ _ ha, hk, e, fun H2 pg m2 np hpg => q H2 _ ((sm.trans m1).trans m2) ?_⟩
          rw [hpf, e]
          exact ⟨⟨pg, rfl, hpg⟩, Mi.parse_va (p := ⟨n, hyps⟩) (hpf.trans e)⟩
/-! known_theory: slots 0 problem -/
abbrev s_known_theory : Stmt := topS 60
abbrev N_known_theory : List Str := ["problem"]
theorem sc_known_theory : FnScope N_known_theory ["problem"] (defScope s_known_theory) := C8.fnScope_by (by decide +kernel)
def sp_known_theory (A : Ad) : Sp := fun vs H Q _ => ∃ (pa : Addr) (n : Nat) (hyps : List Fact) (dx lh : Addr) (u : V) (H0 : Hp), vs = [.ref pa] ∧ PrIs A H0 H pa n hyps dx lh u ∧ L2.Same H0 H ∧
  ∀ H' t Hz, SameX pa H H' → PrIs A H0 H' pa n hyps dx lh (.ref t) → ThAt A Hz H' t n (KnE n hyps) → Q (.ref t) H'
theorem c_known_theory (T : Txt K mg A) : C8.Cal P w K mg base 9 "known_theory" (sp_known_theory A) [] := by
  obtain ⟨f, fd, F, b⟩ := T.d_known_theory.ex
  refine C8.cal0 F b .nil sc_known_theory ?_ ?_
  · rintro vs H Q E ⟨pa, n, hyps, dx, lh, u, H0, rfl, _⟩
    rfl
  · rintro cdv _ outer s H vs Q E hr ⟨pa, n, hyps, dx, lh, u, H0, rfl, hp, hsm, q⟩
    have h0 : 0 < n := by have := hp.n2; omega
    refine ⟨_, (pss_cons (ps_if (pt_cmpR op_isN (pe_fld (pv 0) rfl) pe_non (nomark _)) (pss_one (ps_fld (pv 0) (C8.pe_c (c_theory_of T) hr (by decide) rfl (pa_cons (pe_fld (pv 0) rfl) (pa_cons (pe_fld (pv 0) rfl) pa_nil))) rfl)) pss_nil)
        (pss_one (ps_ret (pe_fld (pv 0) rfl)))), ?_⟩
    refine ⟨_, rfl, pa, A.cp, dx, _, _, rfl, hp.ins, T.k_Problem.cl, T.p_theory, rfl, rfl, _, rfl, ?_⟩
    rcases hp.th with rfl | ⟨t, rfl, hth⟩
    · refine iteT ⟨_, rfl, pa, A.cp, dx, _, _, rfl, hp.ins, T.k_Problem.cl, T.p_many, rfl, _, rfl, pa, A.cp, dx, _, _, rfl, hp.ins, T.k_Problem.cl, T.p_hypotheses, rfl, n, lh, hyps, rfl, hp.hyp, hp.fl, h0, hp.n7, fun H1 t es m1 hth run => ?_⟩
      obtain rfl := (Mi.run_spec hp.n7 h0 hp.fl run).1
      have hi := m1 _ _ hp.ins
      refine ⟨_, rfl, pa, A.cp, dx, _, rfl, hi, T.k_Problem.cl, T.p_theory, (show 3 < 1000 by decide), ?_⟩
      have th2 : ThAt A H0 (upd H1 pa (.ins A.cp dx (putF "theory" (V.ref t) [("many", vN n), ("hypotheses", .ref lh), ("theory", .non)]))) t n (KnE n hyps) := by
        obtain ⟨a, b, c, d, e, L, h⟩ := hth
        exact ⟨a, b, c, d, e, L, (h.keep hi (fun _ z => nomatch z) (by rw [hp.ins]; exact fun z => nomatch z)).base fun _ _ z => hsm.free z⟩
      have pr2 : PrIs A H0 (upd H1 pa (.ins A.cp dx (putF "theory" (V.ref t) [("many", vN n), ("hypotheses", .ref lh), ("theory", .non)]))) pa n hyps dx lh (.ref t) := by
        obtain ⟨hv, h1, h2⟩ := m1.ls hp.hyp
        exact { hp with ins := upd_same, hyp := ls_upd ⟨hv, h1, h2⟩ hi (fun _ z => nomatch z) (ne_kind h1 hi fun z => nomatch z), th := .inr ⟨t, rfl, th2⟩ }
      refine ⟨_, rfl, pa, A.cp, dx, _, _, rfl, pr2.ins, T.k_Problem.cl, T.p_theory, rfl, q _ t H0 ?_ pr2 th2⟩
      exact (m1.x (d := pa)).put
    · refine iteF ⟨_, rfl, pa, A.cp, dx, _, _, rfl, hp.ins, T.k_Problem.cl, T.p_theory, rfl, q H t H0 SameX.refl hp hth⟩
/-! has_hypothesis: slots 0 problem, 1 index -/
abbrev s_has_hypothesis : Stmt := topS 61
abbrev N_has_hypothesis : List Str := ["problem", "index"]
theorem sc_has_hypothesis : FnScope N_has_hypothesis ["problem", "index"] (defScope s_has_hypothesis) := C8.fnScope_by (by decide +kernel)
def sp_has_hypothesis (A : Ad) : Sp := fun vs H Q _ => ∃ (pa : Addr) (i n : Nat) (hyps : List Fact) (dx lh : Addr) (u : V) (H0 : Hp), vs = [.ref pa, vN i] ∧ PrIs A H0 H pa n hyps dx lh u ∧ Q (.bl (decide (i < hyps.length))) H
theorem c_has_hypothesis (T : Txt K mg A) : C8.Cal P w K mg base 1 "has_hypothesis" (sp_has_hypothesis A) [] := by
  obtain ⟨f, fd, F, b⟩ := T.d_has_hypothesis.ex
  refine C8.cal0 F b .nil sc_has_hypothesis ?_ ?_
  · rintro vs H Q E ⟨pa, i, n, hyps, dx, lh, u, H0, rfl, _⟩
    rfl
  · rintro cdv _ outer s H vs Q E hr ⟨pa, i, n, hyps, dx, lh, u, H0, rfl, hp, q⟩
    obtain ⟨hv, h1, h2⟩ := hp.hyp
    refine ⟨_, (pss_one (ps_ret (pe_cmpR op_lt (pv 1) (pe_callB call_len_seq rfl T.n_len PySem.boot_len (pa_cons (pe_fld (pv 0) rfl) pa_nil)) (nomark _)))), ?_⟩
    refine ⟨_, rfl, _, rfl, pa, A.cp, dx, _, _, rfl, hp.ins, T.k_Problem.cl, T.p_hypotheses, rfl, lh, hv, rfl, .inl (SqL.of h1), _, _, rfl, rfl, ?_⟩
    dsimp only
    rw [dec_lt, h2.length]
    exact q
/-! Problem: slots 0 self, 1 many -/
abbrev s_Problem : Stmt := inClass (topS 58) 0
abbrev N_Problem : List Str := ["self", "many"]
theorem sc_Problem : FnScope N_Problem ["self", "many"] (defScope s_Problem) := C8.fnScope_by (by decide +kernel)
def sp_Problem (A : Ad) : Sp := fun vs H Q _ => ∃ (x dx : Addr) (n : Nat) (H0 : Hp), vs = [.ref x, vN n] ∧ H x = some (.ins A.cp dx []) ∧ L2.Same H0 H ∧ H0 x = none ∧ 2 ≤ n ∧ n ≤ 7 ∧
  ∀ H', PrAt A H0 H' x ⟨n, []⟩ → L2.Same H0 H' → Q .non H'
theorem c_Problem (T : Txt K mg A) : C8.Mak P w K mg base 1 "Problem" A.cp (sp_Problem A) [] := by
  obtain ⟨f, fd, M, F, b⟩ := T.k_Problem.ex
  refine C8.mak0 M T.k_Problem.mgC F b .nil sc_Problem ?_ ?_
  · rintro vs H Q E ⟨x, dx, n, H0, rfl, _⟩
    rfl
  · rintro cdv _ outer s H vs Q E hr ⟨x, dx, n, H0, rfl, hx, sm, fx, h2, h7, q⟩
    refine ⟨_, (pss_cons (ps_fld (pv 0) (pv 1) rfl)
        (pss_cons (ps_fld (pv 0) (pe_lst pa_nil) rfl)
        (pss_one (ps_fld (pv 0) pe_non rfl)))), ?_⟩
    refine ⟨_, rfl, _, rfl, x, A.cp, dx, _, rfl, hx, T.k_Problem.cl, T.p_many, (show 0 < 1000 by decide), ?_⟩
    have sm1 := sm.mut (o := .ins A.cp dx (putF "many" (vN n) [])) fx
    have hx1 : upd H x (.ins A.cp dx (putF "many" (vN n) [])) x = _ := upd_same
    generalize upd H x (.ins A.cp dx (putF "many" (vN n) [])) = H1 at *
    refine ⟨Nat.zero_le _, fun lh nlh => ?_⟩
    (generalize hgen : upd _ _ _ = H2; have m2 := grow_same hgen nlh; have t2 := grow_at hgen; clear hgen)
    have hx2 := m2 _ _ hx1
    refine ⟨_, rfl, x, A.cp, dx, _, rfl, hx2, T.k_Problem.cl, T.p_hypotheses, (show 1 < 1000 by decide), ?_⟩
    have xlh : lh ≠ x := ne_kind t2 hx2 fun z => nomatch z
    have l3 : upd H2 x (.ins A.cp dx (putF "hypotheses" (.ref lh) (putF "many" (vN n) []))) lh = some (.lst []) := by rw [upd_ne xlh]; exact t2
    have sm3 := (sm1.trans m2).mut (o := .ins A.cp dx (putF "hypotheses" (.ref lh) (putF "many" (vN n) []))) fx
    have f0 : H0 lh = none := sm1.free nlh
    have hx3 : upd H2 x (.ins A.cp dx (putF "hypotheses" (.ref lh) (putF "many" (vN n) []))) x = _ := upd_same
    generalize upd H2 x (.ins A.cp dx (putF "hypotheses" (.ref lh) (putF "many" (vN n) []))) = H3 at *
    refine ⟨_, rfl, x, A.cp, dx, _, rfl, hx3, T.k_Problem.cl, T.p_theory, (show 2 < 1000 by decide), ?_⟩
    refine q _ ⟨dx, lh, .non, ?_⟩ (sm3.mut fx)
    exact { ins := upd_same, hyp := ⟨[], by rw [upd_ne xlh]; exact l3, .nil⟩, fl := ⟨List.nodup_nil, by simp⟩, n2 := h2, n7 := h7, few := Nat.zero_le _, th := .inl rfl, fpa := fx, flh := f0 }
end
end G
set_option Elab.async false
set_option maxRecDepth 100000
set_option maxHeartbeats 4000000
namespace G
open PySem PySem.Spec PyProof.Rows L2
open Kh375 (Fact Rule)
def RwL (H : Hp) (lr : Addr) (rows : List (List Int)) : Prop := ∃ us, H lr = some (.lst us) ∧ Paired (fun v r => ∃ a, v = V.ref a ∧ LI H a r) us rows
theorem _root_.L2.Same.rwl {H H' : Hp} {lr : Addr} {rows : List (List Int)} (e : L2.Same H H') (h : RwL H lr rows) : RwL H' lr rows := by
  obtain ⟨us, h1, h2⟩ := h
  exact ⟨us, e _ _ h1, L2.Paired.mapP h2 fun _ _ ⟨a, e1, e2⟩ => ⟨a, e1, e _ _ e2⟩⟩
theorem nn_row {r : List Int} (h : ∀ x ∈ r, 0 ≤ x) : r.map V.int = (r.map Int.toNat).map vN := by
  rw [List.map_map]
  refine List.map_congr_left fun x hx => ?_
  show V.int x = V.int ((x.toNat : Nat) : Int)
  rw [Int.toNat_of_nonneg (h x hx)]
def rI (r : Kh375.Result) : List Int := r.status :: r.values
/-- a deed: the document's call, what is asked of its numbers and rows -/
def sp_deed (A : Ad) (cl : List Nat → List (List Int) → Kh375.Call) (ok : List Nat → List (List Int) → Prop) : Sp := fun vs H Q _ => ∃ (pa ln lr : Addr) (p : Kh375.Problem) (nums : List Nat) (rows : List (List Int)) (H0 : Hp), vs = [.ref pa, .ref ln, .ref lr] ∧ PrAt A H0 H pa p ∧ L2.Same H0 H ∧ LN H ln nums ∧ RwL H lr rows ∧ ok nums rows ∧
  ∀ H' l, L2.Same H0 H' → H0 l = none → PrAt A H0 H' pa (Kh375.apply p (cl nums rows)).1 → LI H' l (rI (Kh375.apply p (cl nums rows)).2) → Q (.ref l) H'
def rowN (rows : List (List Int)) (k : Nat) : List Nat := (rows.getD k []).map Int.toNat
def num0 (nums : List Nat) : Nat := nums.getD 0 0
/-- one number, one row of points -/
def okF (nums : List Nat) (rows : List (List Int)) : Prop := nums.length = 1 ∧ ∃ r, rows = [r] ∧ (∀ x ∈ r, 0 ≤ x) ∧ r.length ≤ 4
def ok1 (nums : List Nat) (rows : List (List Int)) : Prop := nums.length = 1 ∧ rows = []
def ok0 (nums : List Nat) (rows : List (List Int)) : Prop := nums = [] ∧ rows = []
theorem num_at {nums : List Nat} (h : nums.length = 1) : atI (nums.map vN) 0 = some (vN (num0 nums)) := at_nat (j := 0) (by omega)
theorem row_at {H : Hp} {lr : Addr} {r : List Int} {rs : List (List Int)} (h : RwL H lr (r :: rs)) : ∃ us a, H lr = some (.lst us) ∧ atI us 0 = some (.ref a) ∧ LI H a r := by
  obtain ⟨us, h1, h2⟩ := h
  cases h2 with
  | cons hd tl =>
    obtain ⟨a, rfl, ha⟩ := hd
    exact ⟨_, a, h1, atI_nat (j := 0) rfl, ha⟩
theorem PrIs.at_ {A : Ad} {H0 H : Hp} {pa : Addr} {n : Nat} {hyps : List Fact} {dx lh : Addr} {u : V} (h : PrIs A H0 H pa n hyps dx lh u) : PrAt A H0 H pa ⟨n, hyps⟩ := ⟨dx, lh, u, h⟩
section
variable {P : Program} {w : World} {K : PySem.W.Frag} {mg : Str → Option Value} {base : Heap} {A : Ad}
/-! hypothesis_count: slots 0 problem, 1 numbers, 2 rows -/
abbrev s_hypothesis_count : Stmt := topS 64
abbrev N_hypothesis_count : List Str := ["problem", "numbers", "rows"]
theorem sc_hypothesis_count : FnScope N_hypothesis_count ["problem", "numbers", "rows"] (defScope s_hypothesis_count) := C8.fnScope_by (by decide +kernel)
theorem c_hypothesis_count (T : Txt K mg A) : C8.Cal P w K mg base 1 "hypothesis_count" (sp_deed A (fun _ _ => .hypothesisCount) ok0) [] := by
  obtain ⟨f, fd, F, b⟩ := T.d_hypothesis_count.ex
  refine C8.cal0 F b .nil sc_hypothesis_count ?_ ?_
  · rintro vs H Q E ⟨pa, ln, lr, p, nums, rows, H0, rfl, _⟩
    rfl
  · rintro cdv _ outer s H vs Q E hr ⟨pa, ln, lr, ⟨n, hyps⟩, nums, rows, H0, rfl, ⟨dx, lh, u, hp⟩, sm, hn, hrw, ok, q⟩
    change PrIs A H0 H pa n hyps dx lh u at hp
    obtain ⟨hv, h1, h2⟩ := hp.hyp
    refine ⟨_, (pss_one (ps_ret (pe_lst (pa_cons (pe_callB call_len_seq rfl T.n_len PySem.boot_len (pa_cons (pe_fld (pv 0) rfl) pa_nil)) pa_nil)))), ?_⟩
    refine ⟨_, rfl, pa, A.cp, dx, _, _, rfl, hp.ins, T.k_Problem.cl, T.p_hypotheses, rfl, lh, hv, rfl, .inl (SqL.of h1), (by show 1 ≤ sizeLine; decide), fun l nl => ?_⟩
    (generalize hgen : upd _ _ _ = H1; have m1 := grow_same hgen nl; have t1 := grow_at hgen; clear hgen)
    refine q H1 l (sm.trans m1) (sm.free nl) (hp.same m1).at_ ?_
    show H1 l = _
    rw [t1, h2.length]
    rfl
/-! get_hypothesis: slots 0 problem, 1 numbers, 2 rows -/
abbrev s_get_hypothesis : Stmt := topS 65
abbrev N_get_hypothesis : List Str := ["problem", "numbers", "rows"]
theorem sc_get_hypothesis : FnScope N_get_hypothesis ["problem", "numbers", "rows"] (defScope s_get_hypothesis) := C8.fnScope_by (by decide +kernel)
theorem c_get_hypothesis (T : Txt K mg A) : C8.Cal P w K mg base 2 "get_hypothesis" (sp_deed A (fun nums _ => .getHypothesis (num0 nums)) ok1) [] := by
  obtain ⟨f, fd, F, b⟩ := T.d_get_hypothesis.ex
  refine C8.cal0 F b .nil sc_get_hypothesis ?_ ?_
  · rintro vs H Q E ⟨pa, ln, lr, p, nums, rows, H0, rfl, _⟩
    rfl
  · rintro cdv _ outer s H vs Q E hr ⟨pa, ln, lr, ⟨n, hyps⟩, nums, rows, H0, rfl, ⟨dx, lh, u, hp⟩, sm, hn, hrw, ok, q⟩
    change PrIs A H0 H pa n hyps dx lh u at hp
    obtain ⟨hv, h1, h2⟩ := hp.hyp
    refine ⟨_, (pss_cons (ps_if (pt_not (pt_val (C8.pe_c (c_has_hypothesis T) hr (by decide) rfl (pa_cons (pv 0) (pa_cons (pe_ix ix_list (pv 1) pe_int (fun _ _ => rfl)) pa_nil))))) (pss_one (ps_ret (pe_lst (pa_cons (pe_un un_neg pe_int) pa_nil)))) pss_nil)
        (pss_one (ps_ret (pe_callTy call_list_of rfl T.n_list (by decide +kernel) (pa_cons (pe_ix ix_list (pe_fld (pv 0) rfl) (pe_ix ix_list (pv 1) pe_int (fun _ _ => rfl)) (fun _ _ => rfl)) pa_nil))))), ?_⟩
    refine ⟨_, rfl, _, rfl, ln, _, _, _, rfl, rfl, SqL.of hn, num_at ok.1, pa, num0 nums, n, hyps, dx, lh, u, H0, rfl, hp, _, rfl, ite2 (fun h => ?_) fun h => ?_⟩
    · have hlt : ¬ num0 nums < hyps.length := fun z => by rw [decide_eq_true z] at h; cases h
      refine ⟨_, rfl, (by show 1 ≤ sizeLine; decide), fun l nl => ?_⟩
      (generalize hgen : upd _ _ _ = H1; have m1 := grow_same hgen nl; have t1 := grow_at hgen; clear hgen)
      refine q H1 l (sm.trans m1) (sm.free nl) (hp.same m1).at_ ?_
      show H1 l = _
      rw [t1]
      show _ = some (HO.lst ((rI (match hyps[num0 nums]? with | none => Kh375.single (-2) | some f => ⟨f.kind, Kh375.integers f.points⟩)).map V.int))
      rw [List.getElem?_eq_none (by omega)]
      rfl
    · have hlt : num0 nums < hyps.length := by
        by_cases c : num0 nums < hyps.length
        · exact c
        · rw [decide_eq_false c] at h; exact absurd rfl h
      have hg : hyps[num0 nums]? = some hyps[num0 nums] := List.getElem?_eq_getElem hlt
      obtain ⟨y, hy, hya⟩ := paired_get' h2 hg
      obtain ⟨af, rfl, haf⟩ := hya
      refine ⟨_, rfl, pa, A.cp, dx, _, _, rfl, hp.ins, T.k_Problem.cl, T.p_hypotheses, rfl, _, rfl, ln, _, _, _, rfl, rfl, SqL.of hn, num_at ok.1, lh, _, _, _, rfl, rfl, SqL.of h1, atI_nat hy, af, _, rfl, .inr (SqT.of haf), fun l nl => ?_⟩
      (generalize hgen : upd _ _ _ = H1; have m1 := grow_same hgen nl; have t1 := grow_at hgen; clear hgen)
      refine q H1 l (sm.trans m1) (sm.free nl) (hp.same m1).at_ ?_
      show H1 l = _
      rw [t1]
      show _ = some (HO.lst ((rI (match hyps[num0 nums]? with | none => Kh375.single (-2) | some f => ⟨f.kind, Kh375.integers f.points⟩)).map V.int))
      rw [hg]
      show some (HO.lst (fV _)) = _
      unfold fV rI Kh375.integers
      rw [List.map_cons, List.map_cons, List.map_map]
      rfl
/-! add_hypothesis: slots 0 problem, 1 numbers, 2 rows, 3 fact -/
abbrev s_add_hypothesis : Stmt := topS 62
abbrev N_add_hypothesis : List Str := ["problem", "numbers", "rows", "fact"]
theorem sc_add_hypothesis : FnScope N_add_hypothesis ["problem", "numbers", "rows"] (defScope s_add_hypothesis) := C8.fnScope_by (by decide +kernel)
theorem c_add_hypothesis (T : Txt K mg A) : C8.Cal P w K mg base 4 "add_hypothesis" (sp_deed A (fun nums rows => .addHypothesis (num0 nums) (rowN rows 0)) okF) [] := by
  obtain ⟨f, fd, F, b⟩ := T.d_add_hypothesis.ex
  refine C8.cal0 F b .nil sc_add_hypothesis ?_ ?_
  · rintro vs H Q E ⟨pa, ln, lr, p, nums, rows, H0, rfl, _⟩
    rfl
  · rintro cdv _ outer s H vs Q E hr ⟨pa, ln, lr, ⟨n, hyps⟩, nums, rows, H0, rfl, ⟨dx, lh, u, hp⟩, sm, hn, hrw, ⟨ok1, r, rfl, hr0, hr4⟩, q⟩
    change PrIs A H0 H pa n hyps dx lh u at hp
    obtain ⟨us, ar, hus, hat, har⟩ := row_at hrw
    have har' : LN H ar (rowN [r] 0) := by
      show H ar = _
      rw [har, nn_row hr0]
      rfl
    refine ⟨_, (pss_cons (ps_set (i := 3) sc_add_hypothesis.nd rfl (Or.inl rfl) (C8.pe_c (c_fact_of T) hr (by decide) rfl (pa_cons (pv 0) (pa_cons (pe_ix ix_list (pv 1) pe_int (fun _ _ => rfl)) (pa_cons (pe_ix ix_list (pv 2) pe_int (fun _ _ => rfl)) pa_nil)))))
        (pss_cons (ps_if (pt_cmpR op_isN (pv 3) pe_non (nomark _)) (pss_one (ps_ret (pe_lst (pa_cons (pe_un un_neg pe_int) pa_nil)))) pss_nil)
        (pss_cons (ps_if (pt_cmpR (op_inD (hu65 hr)) (pv 3) (pe_fld (pv 0) rfl) rfl) (pss_one (ps_ret (pe_lst (pa_cons (pe_un un_neg pe_int) pa_nil)))) pss_nil)
        (pss_cons (ps_if (pt_cmpR op_eq (pe_callB call_len_seq rfl T.n_len PySem.boot_len (pa_cons (pe_fld (pv 0) rfl) pa_nil)) (C8.pe_gc rfl T.g_MOST_HYPOTHESES) (nomark _)) (pss_one (ps_ret (pe_lst (pa_cons (pe_un un_neg pe_int) pa_nil)))) pss_nil)
        (pss_cons (ps_expr (pe_bm PySem.F.plainAttrs_list PySem.F.slot_list_append PySem.F.type_list_append mt_append (pe_fld (pv 0) rfl) (pa_cons (pv 3) pa_nil)))
        (pss_cons (ps_fld (pv 0) pe_non rfl)
        (pss_one (ps_ret (pe_lst (pa_cons (pe_op op_sub (pe_callB call_len_seq rfl T.n_len PySem.boot_len (pa_cons (pe_fld (pv 0) rfl) pa_nil)) pe_int) pa_nil)))))))))), ?_⟩
    refine ⟨_, rfl, _, rfl, ln, _, _, _, rfl, rfl, SqL.of hn, num_at ok1, _, rfl, lr, _, _, _, rfl, rfl, SqL.of hus, hat, pa, ar, num0 nums, n, rowN [r] 0, hyps, dx, lh, u, H0, rfl, hp, har', (by show ((r.map Int.toNat)).length ≤ _; rw [List.length_map]; omega), fun H1 x m1 hx => ?_⟩
    have S1 := sm.trans m1
    have hp1 := hp.same m1
    refine ⟨_, rfl, rfl, _, rfl, ?_⟩
    have hq : (Kh375.apply ⟨n, hyps⟩ (.addHypothesis (num0 nums) (rowN [r] 0))) = (match Kh375.parseFact ⟨n, hyps⟩ (num0 nums) (rowN [r] 0) with
      | none => (⟨n, hyps⟩, Kh375.single (-22))
      | some f => if hyps.contains f then (⟨n, hyps⟩, Kh375.single (-17)) else if 16 ≤ hyps.length then (⟨n, hyps⟩, Kh375.single (-28)) else (⟨n, hyps ++ [f]⟩, Kh375.single hyps.length)) := rfl
    rw [hq] at q
    clear hq
    cases e : Kh375.parseFact ⟨n, hyps⟩ (num0 nums) (rowN [r] 0) with
    | none =>
      rw [e] at hx q
      cases hx
      refine iteT ⟨_, rfl, (by show 1 ≤ sizeLine; decide), fun l nl => ?_⟩
      (generalize hgen : upd _ _ _ = H2; have m2 := grow_same hgen nl; have t2 := grow_at hgen; clear hgen)
      exact q H2 l (S1.trans m2) (S1.free nl) (hp1.same m2).at_ t2
    | some g =>
      rw [e] at hx q
      obtain ⟨⟨ag, rfl, hag⟩, vg⟩ := hx
      obtain ⟨hv, h1, h2⟩ := hp1.hyp
      refine iteF ⟨_, rfl, _, rfl, pa, A.cp, dx, _, _, rfl, hp1.ins, T.k_Problem.cl, T.p_hypotheses, rfl, _, _, dp_dF ⟨ag, rfl, hag⟩, dp_ls hp1.hyp, shaped_dF _, shaped_dFs _, _, rfl, ?_⟩
      rw [any_dF]
      have hcont : hyps.contains g = decide (g ∈ hyps) := by rw [Bool.eq_iff_iff, List.contains_iff_mem, decide_eq_true_eq]
      have q1 := q
      dsimp only at q1
      rw [hcont] at q1
      refine ite2 (fun h => ?_) fun h => ?_
      · rw [if_pos h] at q1
        refine ⟨_, rfl, (by show 1 ≤ sizeLine; decide), fun l nl => ?_⟩
        (generalize hgen : upd _ _ _ = H2; have m2 := grow_same hgen nl; have t2 := grow_at hgen; clear hgen)
        exact q1 H2 l (S1.trans m2) (S1.free nl) (hp1.same m2).at_ t2
      · rw [if_neg h] at q1
        have gn : g ∉ hyps := fun z => h (decide_eq_true z)
        have hl := h2.length
        have h16 := hp.few
        refine ⟨_, rfl, pa, A.cp, dx, _, _, rfl, hp1.ins, T.k_Problem.cl, T.p_hypotheses, rfl, lh, hv, rfl, .inl (SqL.of h1), rfl, _, rfl, ite2 (fun h3 => ?_) fun h3 => ?_⟩
        · have : hyps.length = 16 := by
            have z := V.int.inj (of_decide_eq_true h3)
            omega
          rw [if_pos (by omega)] at q1
          refine ⟨_, rfl, (by show 1 ≤ sizeLine; decide), fun l nl => ?_⟩
          (generalize hgen : upd _ _ _ = H2; have m2 := grow_same hgen nl; have t2 := grow_at hgen; clear hgen)
          exact q1 H2 l (S1.trans m2) (S1.free nl) (hp1.same m2).at_ t2
        · have hlt : hyps.length < 16 := by
            have z : ¬ hyps.length = 16 := fun z => h3 (decide_eq_true (by rw [hl, z]; rfl))
            omega
          rw [if_neg (by omega)] at q1
          refine ⟨_, rfl, pa, A.cp, dx, _, _, rfl, hp1.ins, T.k_Problem.cl, T.p_hypotheses, rfl, .inl ⟨rfl, _, SqL.of h1⟩, _, rfl, lh, hv, _, rfl, rfl, h1, small_line (by omega), ?_⟩
          have S2 := S1.mut (o := .lst (hv ++ [.ref ag])) hp.flh
          have tk := tk_lst (o := .lst (hv ++ [.ref ag])) h1
          have hi2 := keep (u := .lst (hv ++ [.ref ag])) hp1.ins (ne_kind hp1.ins h1 fun z => nomatch z)
          have hl2 : Ls (upd H1 lh (.lst (hv ++ [.ref ag]))) lh (hyps ++ [g]) := ⟨_, upd_same, Paired.snoc (tk.tps h2) ⟨ag, rfl, tk _ _ hag⟩⟩
          generalize upd H1 lh (.lst (hv ++ [.ref ag])) = H2 at *
          refine ⟨_, rfl, pa, A.cp, dx, _, rfl, hi2, T.k_Problem.cl, T.p_theory, (show 3 < 1000 by decide), ?_⟩
          have S3 := S2.mut (o := .ins A.cp dx (putF "theory" .non [("many", vN n), ("hypotheses", .ref lh), ("theory", u)])) hp.fpa
          obtain ⟨hv2, g1, g2⟩ := id hl2
          have hl3 := ls_upd (o' := .ins A.cp dx (putF "theory" .non [("many", vN n), ("hypotheses", .ref lh), ("theory", u)])) hl2 hi2 (fun _ z => nomatch z) (ne_kind g1 hi2 fun z => nomatch z)
          have hi3 : upd H2 pa (.ins A.cp dx (putF "theory" .non [("many", vN n), ("hypotheses", .ref lh), ("theory", u)])) pa = some (.ins A.cp dx [("many", vN n), ("hypotheses", .ref lh), ("theory", .non)]) := upd_same
          generalize upd H2 pa (.ins A.cp dx (putF "theory" .non [("many", vN n), ("hypotheses", .ref lh), ("theory", u)])) = H3 at *
          have fl3 : Mi.Fl n (hyps ++ [g]) := by
            refine ⟨List.nodup_append.mpr ⟨hp.fl.nd, by simp, fun a ha b hb e => gn (by rw [List.mem_singleton] at hb; rw [← hb, ← e]; exact ha)⟩, fun f hf => ?_⟩
            rcases List.mem_append.mp hf with hf | hf
            · exact hp.fl.va f hf
            · rw [List.mem_singleton.mp hf]
              exact vg
          have hp3 : PrIs A H0 H3 pa n (hyps ++ [g]) dx lh .non := { ins := hi3, hyp := hl3, fl := fl3, n2 := hp.n2, n7 := hp.n7, few := by rw [List.length_append]; simp only [List.length_singleton]; omega, th := .inl rfl, fpa := hp.fpa, flh := hp.flh }
          obtain ⟨hv3, k1, k2⟩ := id hl3
          refine ⟨_, rfl, pa, A.cp, dx, _, _, rfl, hi3, T.k_Problem.cl, T.p_hypotheses, rfl, lh, hv3, rfl, .inl (SqL.of k1), _, _, rfl, rfl, (by show 1 ≤ sizeLine; decide), fun l nl => ?_⟩
          (generalize hgen : upd _ _ _ = H4; have m4 := grow_same hgen nl; have t4 := grow_at hgen; clear hgen)
          refine q1 H4 l (S3.trans m4) (S3.free nl) (hp3.same m4).at_ ?_
          show H4 l = _
          rw [t4, k2.length, List.length_append]
          show some (HO.lst [V.int (((hyps.length + 1 : Nat) : Int) - 1)]) = some (HO.lst [V.int (hyps.length : Int)])
          congr 4
          omega
end
end G
set_option Elab.async false
set_option maxRecDepth 100000
set_option maxHeartbeats 4000000
namespace G
open PySem PySem.Spec PyProof.Rows L2
open Kh375 (Fact Rule)
theorem paired_erase {α β : Type} {F : α → β → Prop} : ∀ {l1 : List α} {l2 : List β}, Paired F l1 l2 → ∀ i, Paired F (l1.eraseIdx i) (l2.eraseIdx i)
  | _, _, .nil, i => by rw [List.eraseIdx_nil, List.eraseIdx_nil]; exact .nil
  | _, _, .cons _ t, 0 => t
  | _, _, .cons h t, i + 1 => .cons h (paired_erase t i)
theorem seq_at {i len : Nat} (h : i < len) : seqIndex? (i : Int) len = some i := by
  have h1 : ¬ ((i : Int) < 0) := by omega
  have h2 : (i : Int) < (len : Int) := by omega
  simp [seqIndex?, h1, h2]
section
variable {P : Program} {w : World} {K : PySem.W.Frag} {mg : Str → Option Value} {base : Heap} {A : Ad}
/-! remove_hypothesis: slots 0 problem, 1 numbers, 2 rows -/
abbrev s_remove_hypothesis : Stmt := topS 63
abbrev N_remove_hypothesis : List Str := ["problem", "numbers", "rows"]
theorem sc_remove_hypothesis : FnScope N_remove_hypothesis ["problem", "numbers", "rows"] (defScope s_remove_hypothesis) := C8.fnScope_by (by decide +kernel)
theorem c_remove_hypothesis (T : Txt K mg A) : C8.Cal P w K mg base 2 "remove_hypothesis" (sp_deed A (fun nums _ => .removeHypothesis (num0 nums)) ok1) [] := by
  obtain ⟨f, fd, F, b⟩ := T.d_remove_hypothesis.ex
  refine C8.cal0 F b .nil sc_remove_hypothesis ?_ ?_
  · rintro vs H Q E ⟨pa, ln, lr, p, nums, rows, H0, rfl, _⟩
    rfl
  · rintro cdv _ outer s H vs Q E hr ⟨pa, ln, lr, ⟨n, hyps⟩, nums, rows, H0, rfl, ⟨dx, lh, u, hp⟩, sm, hn, hrw, ok, q⟩
    change PrIs A H0 H pa n hyps dx lh u at hp
    obtain ⟨hv, h1, h2⟩ := hp.hyp
    have hl := h2.length
    have h16 := hp.few
    have hq : Kh375.apply ⟨n, hyps⟩ (.removeHypothesis (num0 nums)) = if hyps.length ≤ num0 nums then (⟨n, hyps⟩, Kh375.single (-2)) else (⟨n, hyps.eraseIdx (num0 nums)⟩, Kh375.single (hyps.length - 1 : Nat)) := rfl
    rw [hq] at q
    clear hq
    refine ⟨_, (pss_cons (ps_if (pt_not (pt_val (C8.pe_c (c_has_hypothesis T) hr (by decide) rfl (pa_cons (pv 0) (pa_cons (pe_ix ix_list (pv 1) pe_int (fun _ _ => rfl)) pa_nil))))) (pss_one (ps_ret (pe_lst (pa_cons (pe_un un_neg pe_int) pa_nil)))) pss_nil)
        (pss_cons (ps_expr (pe_bm PySem.F.plainAttrs_list PySem.F.slot_list_pop PySem.F.type_list_pop mt_popAt (pe_fld (pv 0) rfl) (pa_cons (pe_ix ix_list (pv 1) pe_int (fun _ _ => rfl)) pa_nil)))
        (pss_cons (ps_fld (pv 0) pe_non rfl)
        (pss_one (ps_ret (pe_lst (pa_cons (pe_callB call_len_seq rfl T.n_len PySem.boot_len (pa_cons (pe_fld (pv 0) rfl) pa_nil)) pa_nil))))))), ?_⟩
    refine ⟨_, rfl, _, rfl, ln, _, _, _, rfl, rfl, SqL.of hn, num_at ok.1, pa, num0 nums, n, hyps, dx, lh, u, H0, rfl, hp, _, rfl, ite2 (fun h => ?_) fun h => ?_⟩
    · have hlt : ¬ num0 nums < hyps.length := fun z => by rw [decide_eq_true z] at h; cases h
      rw [if_pos (by omega)] at q
      refine ⟨_, rfl, (by show 1 ≤ sizeLine; decide), fun l nl => ?_⟩
      (generalize hgen : upd _ _ _ = H1; have m1 := grow_same hgen nl; have t1 := grow_at hgen; clear hgen)
      exact q H1 l (sm.trans m1) (sm.free nl) (hp.same m1).at_ t1
    · have hlt : num0 nums < hyps.length := by
        by_cases c : num0 nums < hyps.length
        · exact c
        · rw [decide_eq_false c] at h; exact absurd rfl h
      rw [if_neg (by omega)] at q
      have hg : hv[num0 nums]? = some hv[num0 nums] := List.getElem?_eq_getElem (by omega)
      refine ⟨_, rfl, pa, A.cp, dx, _, _, rfl, hp.ins, T.k_Problem.cl, T.p_hypotheses, rfl, .inl ⟨rfl, _, SqL.of h1⟩, _, rfl, ln, _, _, _, rfl, rfl, SqL.of hn, num_at ok.1, lh, hv, _, num0 nums, _, rfl, rfl, h1, by omega, by omega, ?_, hg, ?_⟩
      · exact seq_at (by omega)
      have S2 := sm.mut (o := .lst (hv.eraseIdx (num0 nums))) hp.flh
      have tk := tk_lst (o := .lst (hv.eraseIdx (num0 nums))) h1
      have hi2 := keep (u := .lst (hv.eraseIdx (num0 nums))) hp.ins (ne_kind hp.ins h1 fun z => nomatch z)
      have hl2 : Ls (upd H lh (.lst (hv.eraseIdx (num0 nums)))) lh (hyps.eraseIdx (num0 nums)) := ⟨_, upd_same, paired_erase (tk.tps h2) _⟩
      generalize upd H lh (.lst (hv.eraseIdx (num0 nums))) = H2 at *
      refine ⟨_, rfl, pa, A.cp, dx, _, rfl, hi2, T.k_Problem.cl, T.p_theory, (show 3 < 1000 by decide), ?_⟩
      have S3 := S2.mut (o := .ins A.cp dx (putF "theory" .non [("many", vN n), ("hypotheses", .ref lh), ("theory", u)])) hp.fpa
      obtain ⟨hv2, g1, g2⟩ := id hl2
      have hl3 := ls_upd (o' := .ins A.cp dx (putF "theory" .non [("many", vN n), ("hypotheses", .ref lh), ("theory", u)])) hl2 hi2 (fun _ z => nomatch z) (ne_kind g1 hi2 fun z => nomatch z)
      have hi3 : upd H2 pa (.ins A.cp dx (putF "theory" .non [("many", vN n), ("hypotheses", .ref lh), ("theory", u)])) pa = some (.ins A.cp dx [("many", vN n), ("hypotheses", .ref lh), ("theory", .non)]) := upd_same
      generalize upd H2 pa (.ins A.cp dx (putF "theory" .non [("many", vN n), ("hypotheses", .ref lh), ("theory", u)])) = H3 at *
      have el : (hyps.eraseIdx (num0 nums)).length = hyps.length - 1 := List.length_eraseIdx_of_lt hlt
      have hp3 : PrIs A H0 H3 pa n (hyps.eraseIdx (num0 nums)) dx lh .non := { ins := hi3, hyp := hl3, fl := fl_erase hp.fl _, n2 := hp.n2, n7 := hp.n7, few := by omega, th := .inl rfl, fpa := hp.fpa, flh := hp.flh }
      obtain ⟨hv3, k1, k2⟩ := id hl3
      refine ⟨_, rfl, pa, A.cp, dx, _, _, rfl, hi3, T.k_Problem.cl, T.p_hypotheses, rfl, lh, hv3, rfl, .inl (SqL.of k1), (by show 1 ≤ sizeLine; decide), fun l nl => ?_⟩
      (generalize hgen : upd _ _ _ = H4; have m4 := grow_same hgen nl; have t4 := grow_at hgen; clear hgen)
      refine q H4 l (S3.trans m4) (S3.free nl) (hp3.same m4).at_ ?_
      show H4 l = _
      rw [t4, k2.length, el]
      rfl
/-! known_count: slots 0 problem, 1 numbers, 2 rows -/
abbrev s_known_count : Stmt := topS 66
abbrev N_known_count : List Str := ["problem", "numbers", "rows"]
theorem sc_known_count : FnScope N_known_count ["problem", "numbers", "rows"] (defScope s_known_count) := C8.fnScope_by (by decide +kernel)
theorem c_known_count (T : Txt K mg A) : C8.Cal P w K mg base 10 "known_count" (sp_deed A (fun _ _ => .knownCount) ok0) [] := by
  obtain ⟨f, fd, F, b⟩ := T.d_known_count.ex
  refine C8.cal0 F b .nil sc_known_count ?_ ?_
  · rintro vs H Q E ⟨pa, ln, lr, p, nums, rows, H0, rfl, _⟩
    rfl
  · rintro cdv _ outer s H vs Q E hr ⟨pa, ln, lr, ⟨n, hyps⟩, nums, rows, H0, rfl, ⟨dx, lh, u, hp⟩, sm, hn, hrw, ok, q⟩
    change PrIs A H0 H pa n hyps dx lh u at hp
    refine ⟨_, (pss_one (ps_ret (pe_lst (pa_cons (pe_callB call_len_seq rfl T.n_len PySem.boot_len (pa_cons (pe_fld (C8.pe_c (c_known_theory T) hr (by decide) rfl (pa_cons (pv 0) pa_nil)) rfl) pa_nil)) pa_nil)))), ?_⟩
    refine ⟨_, rfl, pa, n, hyps, dx, lh, u, H0, rfl, hp, sm, fun H1 t Hz sx hp1 hth => ?_⟩
    obtain ⟨tx, lo, dr, dk, ds, L, th⟩ := hth
    obtain ⟨ov, o2, o3⟩ := th.order
    have S1 := sx.base sm hp.fpa
    refine ⟨t, A.ct, tx, _, _, rfl, th.ins, T.k_Theory.cl, T.t_order, rfl, lo, ov, rfl, .inl (SqL.of o2), (by show 1 ≤ sizeLine; decide), fun l nl => ?_⟩
    (generalize hgen : upd _ _ _ = H2; have m2 := grow_same hgen nl; have t2 := grow_at hgen; clear hgen)
    refine q H2 l (S1.trans m2) (S1.free nl) (hp1.same m2).at_ ?_
    show H2 l = _
    rw [t2, o3.length, List.length_map, List.length_map]
    rfl
/-! round_of: slots 0 problem, 1 numbers, 2 rows, 3 fact -/
abbrev s_round_of : Stmt := topS 69
abbrev N_round_of : List Str := ["problem", "numbers", "rows", "fact"]
theorem sc_round_of : FnScope N_round_of ["problem", "numbers", "rows"] (defScope s_round_of) := C8.fnScope_by (by decide +kernel)
theorem c_round_of (T : Txt K mg A) : C8.Cal P w K mg base 10 "round_of" (sp_deed A (fun nums rows => .roundOf (num0 nums) (rowN rows 0)) okF) [] := by
  obtain ⟨f, fd, F, b⟩ := T.d_round_of.ex
  refine C8.cal0 F b .nil sc_round_of ?_ ?_
  · rintro vs H Q E ⟨pa, ln, lr, p, nums, rows, H0, rfl, _⟩
    rfl
  · rintro cdv _ outer s H vs Q E hr ⟨pa, ln, lr, ⟨n, hyps⟩, nums, rows, H0, rfl, ⟨dx, lh, u, hp⟩, sm, hn, hrw, ⟨ok1, r, rfl, hr0, hr4⟩, q⟩
    change PrIs A H0 H pa n hyps dx lh u at hp
    obtain ⟨us, ar, hus, hat, har⟩ := row_at hrw
    have har' : LN H ar (rowN [r] 0) := by
      show H ar = _
      rw [har, nn_row hr0]
      rfl
    refine ⟨_, (pss_cons (ps_set (i := 3) sc_round_of.nd rfl (Or.inl rfl) (C8.pe_c (c_fact_of T) hr (by decide) rfl (pa_cons (pv 0) (pa_cons (pe_ix ix_list (pv 1) pe_int (fun _ _ => rfl)) (pa_cons (pe_ix ix_list (pv 2) pe_int (fun _ _ => rfl)) pa_nil)))))
        (pss_cons (ps_if (pt_cmpR op_isN (pv 3) pe_non (nomark _)) (pss_one (ps_ret (pe_lst (pa_cons (pe_un un_neg pe_int) pa_nil)))) pss_nil)
        (pss_one (ps_ret (pe_lst (pa_cons (pe_dget2 (hu_of hr) (pe_fld (C8.pe_c (c_known_theory T) hr (by decide) rfl (pa_cons (pv 0) pa_nil)) rfl) (pv 3) (pe_un un_neg pe_int) ⟨rfl, rfl, rfl, rfl⟩) pa_nil)))))), ?_⟩
    refine ⟨_, rfl, _, rfl, ln, _, _, _, rfl, rfl, SqL.of hn, num_at ok1, _, rfl, lr, _, _, _, rfl, rfl, SqL.of hus, hat, pa, ar, num0 nums, n, rowN [r] 0, hyps, dx, lh, u, H0, rfl, hp, har', (by show ((r.map Int.toNat)).length ≤ _; rw [List.length_map]; omega), fun H1 x m1 hx => ?_⟩
    have S1 := sm.trans m1
    have hp1 := hp.same m1
    refine ⟨_, rfl, rfl, _, rfl, ?_⟩
    have hq : (Kh375.apply ⟨n, hyps⟩ (.roundOf (num0 nums) (rowN [r] 0))) = (match Kh375.parseFact ⟨n, hyps⟩ (num0 nums) (rowN [r] 0) with
      | none => (⟨n, hyps⟩, Kh375.single (-22))
      | some f => (⟨n, hyps⟩, match Kh375.findEntry (Kh375.knownEntries ⟨n, hyps⟩) f with
        | none => Kh375.single (-33)
        | some e => Kh375.single e.round)) := rfl
    rw [hq] at q
    clear hq
    cases e : Kh375.parseFact ⟨n, hyps⟩ (num0 nums) (rowN [r] 0) with
    | none =>
      rw [e] at hx q
      cases hx
      refine iteT ⟨_, rfl, (by show 1 ≤ sizeLine; decide), fun l nl => ?_⟩
      (generalize hgen : upd _ _ _ = H2; have m2 := grow_same hgen nl; have t2 := grow_at hgen; clear hgen)
      exact q H2 l (S1.trans m2) (S1.free nl) (hp1.same m2).at_ t2
    | some g =>
      rw [e] at hx q
      obtain ⟨⟨ag, rfl, hag⟩, vg⟩ := hx
      refine iteF ⟨_, rfl, pa, n, hyps, dx, lh, u, H0, rfl, hp1, S1, fun H2 t Hz sx hp2 hth => ?_⟩
      obtain ⟨tx, lo, dr, dk, ds, L, th⟩ := hth
      obtain ⟨rv, r2, _, r4⟩ := th.rounds
      have S2 := sx.base S1 hp.fpa
      have hag2 := sx _ _ (ne_kind hag hp1.ins fun z => nomatch z) hag
      have hg : DGet H2 dr (.ref ag) ((Mi.roundIn (KnE n hyps) g).map vN) := by
        have z := DGet.t r2 (by rw [keyF_kV]; exact hag2 : H2 ag = some (.tup ((keyF g).map kV)))
        rw [r4] at z
        exact z
      refine ⟨t, A.ct, tx, _, _, rfl, th.ins, T.k_Theory.cl, T.t_rounds, rfl, dr, rfl, .inr ⟨rv, .inl r2⟩, _, rfl, _, rfl, _, hg, (by show 1 ≤ sizeLine; decide), fun l nl => ?_⟩
      (generalize hgen : upd _ _ _ = H3; have m3 := grow_same hgen nl; have t3 := grow_at hgen; clear hgen)
      refine q H3 l (S2.trans m3) (S2.free nl) (hp2.same m3).at_ ?_
      show H3 l = _
      rw [t3, Mi.roundIn_pr]
      dsimp only
      cases Kh375.findEntry (Kh375.knownEntries ⟨n, hyps⟩) g with
      | none => rfl
      | some e => rfl
end
end G
set_option Elab.async false
set_option maxRecDepth 100000
set_option maxHeartbeats 4000000
namespace G
open PySem PySem.Spec PyProof.Rows L2
open Kh375 (Fact Rule)
theorem flat_len (fs : List Fact) (h : ∀ f ∈ fs, f.points.length ≤ 4) : (fs.flatMap fun f => f.points).length ≤ 4 * fs.length := by
  induction fs with
  | nil => exact Nat.le_refl _
  | cons f fs ih =>
    rw [List.flatMap_cons, List.length_append, List.length_cons]
    have := h f (List.mem_cons_self ..)
    have := ih fun g hg => h g (List.mem_cons_of_mem _ hg)
    omega
theorem nf_len4 {f : Fact} (h : Mi.NF f) : f.points.length ≤ 4 := by
  rcases h.cases with ⟨_, _, _, rfl | rfl, _⟩ | ⟨_, _, _, _, rfl, _⟩ | ⟨_, _, _, rfl, _⟩ | ⟨_, _, _, _, rfl | rfl | rfl, _⟩ <;> simp
section
variable {P : Program} {w : World} {K : PySem.W.Frag} {mg : Str → Option Value} {base : Heap} {A : Ad}
/-! list_known: slots 0 problem, 1 numbers, 2 rows, 3 fact, 4 facts, 5 found -/
abbrev s_list_known : Stmt := topS 67
abbrev N_list_known : List Str := ["problem", "numbers", "rows", "fact", "facts", "found"]
theorem sc_list_known : FnScope N_list_known ["problem", "numbers", "rows"] (defScope s_list_known) := C8.fnScope_by (by decide +kernel)
theorem c_list_known (T : Txt K mg A) : C8.Cal P w K mg base 10 "list_known" (sp_deed A (fun nums _ => .listKnown (num0 nums)) ok1) [] := by
  obtain ⟨f, fd, F, b⟩ := T.d_list_known.ex
  refine C8.cal0 F b .nil sc_list_known ?_ ?_
  · rintro vs H Q E ⟨pa, ln, lr, p, nums, rows, H0, rfl, _⟩
    rfl
  · rintro cdv _ outer s H vs Q E hr ⟨pa, ln, lr, ⟨n, hyps⟩, nums, rows, H0, rfl, ⟨dx, lh, u, hp⟩, sm, hn, hrw, ok, q⟩
    change PrIs A H0 H pa n hyps dx lh u at hp
    have hq : Kh375.apply ⟨n, hyps⟩ (.listKnown (num0 nums)) = if 7 ≤ num0 nums then (⟨n, hyps⟩, Kh375.single (-22)) else (⟨n, hyps⟩, ⟨(((Kh375.knownEntries ⟨n, hyps⟩).filter fun e => e.fact.kind == num0 nums).length : Int), ((Kh375.knownEntries ⟨n, hyps⟩).filter fun e => e.fact.kind == num0 nums).flatMap fun e => Kh375.integers e.fact.points⟩) := rfl
    rw [hq] at q
    clear hq
    refine ⟨_, (pss_cons (ps_if (pt_cmpR op_gt (pe_ix ix_list (pv 1) pe_int (fun _ _ => rfl)) (C8.pe_gc rfl T.g_MOST_KIND) (nomark _)) (pss_one (ps_ret (pe_lst (pa_cons (pe_un un_neg pe_int) pa_nil)))) pss_nil)
        (pss_cons (ps_setLc (i := 4) (own := [("fact", 3)]) (g := gName 3) (by rfl) sc_list_known.nd rfl rfl (sw_true rfl rfl rfl (by decide +kernel)) (pi_list (pe_fld (C8.pe_c (c_known_theory T) hr (by decide) rfl (pa_cons (pv 0) pa_nil)) rfl)) (blkOk_by (own := [("fact", 3)]) (N := N_list_known) (sc := defScope s_list_known) (by decide +kernel)) (fun _ _ _ _ _ => pg_name (i := 3) sc_list_known.nd rfl (Or.inl rfl)) (fun _ _ _ _ _ => (pts_one (pt_cmpR op_eq (pe_ix (ix_tupK K rfl) (pv 3) pe_int (fun _ _ => rfl)) (pe_ix (ix_listK K rfl) (pv 1) pe_int (fun _ _ => rfl)) (nomark _)))) (fun _ _ _ _ _ => (pv 3)))
        (pss_cons (ps_set (i := 5) sc_list_known.nd rfl (Or.inl rfl) (pe_lst (pa_cons (pe_callB call_len_seq rfl T.n_len PySem.boot_len (pa_cons (pv 4) pa_nil)) pa_nil)))
        (pss_cons (ps_for PassesOwn.never rfl (pi_list (pv 4)) (pg_name (i := 3) sc_list_known.nd rfl (Or.inl rfl))
        (pss_one (ps_expr (pe_bm PySem.F.plainAttrs_list PySem.F.slot_list_extend PySem.F.type_list_extend mt_extend (pv 5) (pa_cons (pe_callTy call_list_of rfl T.n_list (by decide +kernel) (pa_cons (pe_slice sl_tup (pv 3) (po_some pe_int) po_none) pa_nil)) pa_nil)))))
        (pss_one (ps_ret (pv 5))))))), ?_⟩
    refine ⟨_, rfl, ln, _, _, _, rfl, rfl, SqL.of hn, num_at ok.1, _, _, rfl, rfl, _, rfl, ite2 (fun h => ?_) fun h => ?_⟩
    · rw [if_pos (by have := of_decide_eq_true h; omega)] at q
      refine ⟨_, rfl, (by show 1 ≤ sizeLine; decide), fun l nl => ?_⟩
      (generalize hgen : upd _ _ _ = H1; have m1 := grow_same hgen nl; have t1 := grow_at hgen; clear hgen)
      exact q H1 l (sm.trans m1) (sm.free nl) (hp.same m1).at_ t1
    · rw [if_neg (by have : ¬ (6 : Int) < (num0 nums : Int) := fun z => h (decide_eq_true z); omega)] at q
      refine ⟨_, rfl, pa, n, hyps, dx, lh, u, H0, rfl, hp, sm, fun H1 t Hz sx hp1 hth => ?_⟩
      obtain ⟨tx, lo, dr, dk, ds, L, th⟩ := hth
      obtain ⟨ov, o2, o3⟩ := th.order
      have S1 := sx.base sm hp.fpa
      have hn1 : LN H1 ln nums := sx _ _ (ne_kind hn hp.ins fun z => nomatch z) hn
      have hes := kn_fl hp.n7 hp.fl
      have hfew := hes.few hp.n7
      generalize eF : (KnE n hyps).map (·.1) = fs at *
      refine ⟨t, A.ct, tx, _, _, rfl, th.ins, T.k_Theory.cl, T.t_order, rfl, lo, rfl, ⟨ov, SqL.of o2⟩, fun D nD => ?_⟩
      refine lc_list (K := K) (a := lo) (xs := ov) (fun i Hx => L2.Same H1 Hx ∧ Ls Hx D ((fs.take i).filter fun f => decide (f.kind = num0 nums))) ⟨L2.Same.new nD, [], upd_same, .nil⟩ (fun i Hx _ ⟨z, _⟩ => SqL.of (z _ _ o2)) ?_ ?_
      · rintro i y Hx hy ⟨s2, vs, hD, hvs⟩
        obtain ⟨g, hg, hga⟩ := paired_at o3 hy
        obtain ⟨ag, rfl, hag⟩ := s2.tp hga
        refine ⟨rfl, _, rfl, ag, _, _, _, rfl, rfl, SqT.of hag, fV_at0 g, _, rfl, ln, _, _, _, rfl, rfl, SqL.of (s2 _ _ hn1), num_at ok.1, rfl, _, rfl, ?_⟩
        rw [take_snoc hg, List.filter_append]
        refine ite2 (fun h3 => ?_) fun h3 => ?_
        · have ek : g.kind = num0 nums := dec_vN.mp h3
          have e1 : [g].filter (fun f => decide (f.kind = num0 nums)) = [g] := by simp [ek]
          rw [e1]
          have vl := hvs.length
          have fl1 := List.length_filter_le (fun f : Fact => decide (f.kind = num0 nums)) (fs.take i)
          have fl2 : (fs.take i).length ≤ fs.length := List.length_take_le' _ _
          have tk := tk_lst (o := .lst (vs ++ [.ref ag])) hD
          exact ⟨_, rfl, vs, hD, small_line (by omega), s2.mut nD, vs ++ [.ref ag], upd_same, Paired.snoc (tk.tps hvs) ⟨ag, rfl, tk _ _ hag⟩⟩
        · have ek : ¬ g.kind = num0 nums := fun z => h3 (dec_vN.mpr z)
          have e1 : [g].filter (fun f => decide (f.kind = num0 nums)) = [] := by simp [ek]
          rw [e1, List.append_nil]
          exact ⟨s2, vs, hD, hvs⟩
      · rintro Hx ⟨s2, hD⟩
        rw [o3.length, List.take_length] at hD
        have hgva : ∀ f ∈ fs.filter (fun f => decide (f.kind = num0 nums)), f.points.length ≤ 4 := fun f hf => nf_len4 (hes.va f (List.mem_filter.mp hf).1).nf
        have hglen : (fs.filter fun f => decide (f.kind = num0 nums)).length ≤ 840 := Nat.le_trans (List.length_filter_le _ _) hfew
        have hgs : ((Kh375.knownEntries ⟨n, hyps⟩).filter (fun e => e.fact.kind == num0 nums)).map (fun e => e.fact) = fs.filter fun f => decide (f.kind = num0 nums) := by
          rw [← eF, Mi.pr_facts, List.filter_map]
          congr 1
        generalize eG : fs.filter (fun f => decide (f.kind = num0 nums)) = gs at *
        obtain ⟨vs, hD, hvs⟩ := hD
        refine ⟨_, rfl, D, vs, rfl, .inl (SqL.of hD), (by show 1 ≤ sizeLine; decide), fun l nl => ?_⟩
        (generalize hgen : upd _ _ _ = H3; have m3 := grow_same hgen nl; have t3 := grow_at hgen; clear hgen)
        refine ⟨_, rfl, D, rfl, ⟨vs, SqL.of (m3 _ _ hD)⟩, for_list (K := K) (a := D) (xs := vs) (fun i σ H4 => ∃ x3, σ = [some (.ref pa), some (.ref ln), some (.ref lr), x3, some (.ref D), some (.ref l)] ∧ L2.Same Hx H4 ∧ H4 l = some (.lst (.int (vs.length : Nat) :: ((gs.take i).flatMap fun f => f.points).map vN)))
          ⟨_, rfl, m3, t3⟩ (fun i σ H4 _ ⟨_, _, z, _⟩ => SqL.of (z _ _ hD)) ?_ ?_⟩
        · rintro i y σ H4 hy ⟨x3, rfl, s4, hl4⟩
          obtain ⟨g, hg, hga⟩ := paired_at hvs hy
          obtain ⟨ag, rfl, hag⟩ := s4.tp hga
          have g4 := hgva g (List.mem_of_getElem? hg)
          refine ⟨_, rfl, .inl ⟨rfl, _, SqL.of hl4⟩, _, rfl, _, rfl, ag, _, rfl, SqT.of hag, cutF_not g, fun c1 nc1 => ?_⟩
          rw [cutF]
          (generalize hgen : upd _ _ _ = H5; have m5 := grow_same hgen nc1; have t5 := grow_at hgen; clear hgen)
          refine ⟨c1, _, rfl, .inr (SqT.of t5), fun l2 nl2 => ?_⟩
          (generalize hgen : upd _ _ _ = H6; have m6 := grow_same hgen nl2; have t6 := grow_at hgen; clear hgen)
          have hl6 := m6 _ _ (m5 _ _ hl4)
          refine ⟨l, l2, _, _, rfl, rfl, hl6, t6, small_lineE ?_, ?_⟩
          · have z := flat_len (gs.take i) fun f hf => hgva f (List.mem_of_mem_take hf)
            have z2 : (gs.take i).length ≤ gs.length := List.length_take_le' _ _
            rw [List.length_cons, List.length_map, List.length_map]
            omega
          · refine ⟨_, rfl, ((s4.trans m5).trans m6).mut nl, ?_⟩
            rw [upd_same, take_snoc hg, List.flatMap_append, List.flatMap_singleton, List.map_append]
            rfl
        · rintro σ H4 ⟨x3, rfl, s4, hl4⟩
          have e4 : vs.length = gs.length := hvs.length
          have SD := (S1.trans s2).trans s4
          rw [e4, List.take_length] at hl4
          refine ⟨_, rfl, q H4 l SD ((S1.trans s2).free nl) ((hp1.same s2).same s4).at_ ?_⟩
          show H4 l = _
          rw [hl4]
          unfold rI
          dsimp only
          have e5 : ((Kh375.knownEntries ⟨n, hyps⟩).filter fun e => e.fact.kind == num0 nums).length = gs.length := by rw [← hgs, List.length_map]
          have e6 : (((Kh375.knownEntries ⟨n, hyps⟩).filter fun e => e.fact.kind == num0 nums).flatMap fun e => Kh375.integers e.fact.points) = (gs.flatMap fun f => f.points).map fun n : Nat => (n : Int) := by
            rw [← hgs, List.flatMap_map, List.map_flatMap]
            rfl
          rw [e5, e6, List.map_cons, List.map_map]
          rfl
end
end G
set_option Elab.async false
set_option maxRecDepth 100000
set_option maxHeartbeats 4000000
namespace G
open PySem PySem.Spec PyProof.Rows L2
open Kh375 (Fact Rule)
theorem at_last {xs : List V} {x : V} (h : xs.getLast? = some x) : atI xs (-1) = some x := by
  have hne : xs ≠ [] := fun z => by rw [z] at h; cases h
  have hpos : 0 < xs.length := List.length_pos_iff.mpr hne
  unfold atI ixN
  rw [if_neg (by omega), if_pos (by omega)]
  have e : ((-1 : Int) + (xs.length : Int)).toNat = xs.length - 1 := by omega
  show xs[((-1 : Int) + (xs.length : Int)).toNat]? = some x
  rw [e, ← List.getLast?_eq_getElem?]
  exact h
section
variable {P : Program} {w : World} {K : PySem.W.Frag} {mg : Str → Option Value} {base : Heap} {A : Ad}
/-! round_count: slots 0 problem, 1 numbers, 2 rows, 3 theory -/
abbrev s_round_count : Stmt := topS 68
abbrev N_round_count : List Str := ["problem", "numbers", "rows", "theory"]
theorem sc_round_count : FnScope N_round_count ["problem", "numbers", "rows"] (defScope s_round_count) := C8.fnScope_by (by decide +kernel)
theorem c_round_count (T : Txt K mg A) : C8.Cal P w K mg base 10 "round_count" (sp_deed A (fun _ _ => .roundCount) ok0) [] := by
  obtain ⟨f, fd, F, b⟩ := T.d_round_count.ex
  refine C8.cal0 F b .nil sc_round_count ?_ ?_
  · rintro vs H Q E ⟨pa, ln, lr, p, nums, rows, H0, rfl, _⟩
    rfl
  · rintro cdv _ outer s H vs Q E hr ⟨pa, ln, lr, ⟨n, hyps⟩, nums, rows, H0, rfl, ⟨dx, lh, u, hp⟩, sm, hn, hrw, ok, q⟩
    change PrIs A H0 H pa n hyps dx lh u at hp
    have hq : Kh375.apply ⟨n, hyps⟩ .roundCount = (⟨n, hyps⟩, Kh375.single ((((Kh375.knownEntries ⟨n, hyps⟩).map fun e => e.round).foldl max 0 : Nat) : Int)) := rfl
    rw [hq, Mi.round_count hp.n7 hp.fl] at q
    clear hq
    refine ⟨_, (pss_cons (ps_set (i := 3) sc_round_count.nd rfl (Or.inl rfl) (C8.pe_c (c_known_theory T) hr (by decide) rfl (pa_cons (pv 0) pa_nil)))
        (pss_one (ps_ret (pe_lst (pa_cons (pe_ifExp (pt_cmpR op_gt (pe_callB call_len_seq rfl T.n_len PySem.boot_len (pa_cons (pe_fld (pv 3) rfl) pa_nil)) pe_int (nomark _)) (pe_dget (hu_of hr) (pe_fld (pv 3) rfl) (pe_ix ix_list (pe_fld (pv 3) rfl) (pe_un un_neg pe_int) (fun _ _ => rfl)) (fun _ _ => rfl)) pe_int) pa_nil))))), ?_⟩
    refine ⟨_, rfl, pa, n, hyps, dx, lh, u, H0, rfl, hp, sm, fun H1 t Hz sx hp1 hth => ?_⟩
    obtain ⟨tx, lo, dr, dk, ds, L, th⟩ := hth
    obtain ⟨ov, o2, o3⟩ := th.order
    obtain ⟨rv, r2, _, r4⟩ := th.rounds
    have S1 := sx.base sm hp.fpa
    have ol := o3.length
    rw [List.length_map, List.length_map] at ol
    refine ⟨_, rfl, t, A.ct, tx, _, _, rfl, th.ins, T.k_Theory.cl, T.t_order, rfl, lo, ov, rfl, .inl (SqL.of o2), _, _, rfl, rfl, _, rfl, ite2 (fun h => ?_) fun h => ?_⟩
    · have hpos : 0 < (Kh375.knownEntries ⟨n, hyps⟩).length := by
        have := of_decide_eq_true h
        omega
      obtain ⟨e, he⟩ : ∃ e, (Kh375.knownEntries ⟨n, hyps⟩).getLast? = some e := by
        cases e : (Kh375.knownEntries ⟨n, hyps⟩).getLast? with
        | none => rw [List.getLast?_eq_none_iff.mp e] at hpos; cases hpos
        | some e' => exact ⟨e', rfl⟩
      have hlast : ((KnE n hyps).map (·.1))[(Kh375.knownEntries ⟨n, hyps⟩).length - 1]? = some e.fact := by
        rw [List.getElem?_map, List.getElem?_map, ← List.getLast?_eq_getElem?, he]
        rfl
      obtain ⟨y, hy, hya⟩ := paired_get' o3 hlast
      obtain ⟨ag, rfl, hag⟩ := hya
      have hyl : ov.getLast? = some (.ref ag) := by
        rw [List.getLast?_eq_getElem?, ol]
        exact hy
      have hmem : e ∈ Kh375.knownEntries ⟨n, hyps⟩ := List.mem_of_getLast? he
      have hround : Mi.roundIn (KnE n hyps) e.fact = some e.round := round_of_mem (kn_fl hp.n7 hp.fl) (List.mem_map.mpr ⟨e, hmem, rfl⟩ : (e.fact, e.round) ∈ KnE n hyps)
      have hg : DGet H1 dr (.ref ag) (some (vN e.round)) := by
        have z := DGet.t r2 (by rw [keyF_kV]; exact hag : H1 ag = some (.tup ((keyF e.fact).map kV)))
        rw [r4, hround] at z
        exact z
      rw [he] at q
      refine ⟨_, rfl, t, A.ct, tx, _, _, rfl, th.ins, T.k_Theory.cl, T.t_rounds, rfl, _, rfl, t, A.ct, tx, _, _, rfl, th.ins, T.k_Theory.cl, T.t_order, rfl, _, rfl, lo, _, _, _, rfl, rfl, SqL.of o2, at_last hyl, dr, _, rfl, hg, (by show 1 ≤ sizeLine; decide), fun l nl => ?_⟩
      (generalize hgen : upd _ _ _ = H2; have m2 := grow_same hgen nl; have t2 := grow_at hgen; clear hgen)
      exact q H2 l (S1.trans m2) (S1.free nl) (hp1.same m2).at_ t2
    · have hnil : Kh375.knownEntries ⟨n, hyps⟩ = [] := by
        have : ¬ (0 : Int) < (ov.length : Int) := fun z => h (decide_eq_true z)
        exact List.eq_nil_of_length_eq_zero (by omega)
      rw [hnil] at q
      refine ⟨(by show 1 ≤ sizeLine; decide), fun l nl => ?_⟩
      (generalize hgen : upd _ _ _ = H2; have m2 := grow_same hgen nl; have t2 := grow_at hgen; clear hgen)
      refine q H2 l (S1.trans m2) (S1.free nl) ?_ t2
      exact (hp1.same m2).at_
/-! contradiction: slots 0 problem, 1 numbers, 2 rows, 3 theory, 4 fact -/
abbrev s_contradiction : Stmt := topS 75
abbrev N_contradiction : List Str := ["problem", "numbers", "rows", "theory", "fact"]
theorem sc_contradiction : FnScope N_contradiction ["problem", "numbers", "rows"] (defScope s_contradiction) := C8.fnScope_by (by decide +kernel)
theorem c_contradiction (T : Txt K mg A) : C8.Cal P w K mg base 10 "contradiction" (sp_deed A (fun _ _ => .contradiction) ok0) [] := by
  obtain ⟨f, fd, F, b⟩ := T.d_contradiction.ex
  refine C8.cal0 F b .nil sc_contradiction ?_ ?_
  · rintro vs H Q E ⟨pa, ln, lr, p, nums, rows, H0, rfl, _⟩
    rfl
  · rintro cdv _ outer s H vs Q E hr ⟨pa, ln, lr, ⟨n, hyps⟩, nums, rows, H0, rfl, ⟨dx, lh, u, hp⟩, sm, hn, hrw, ok, q⟩
    change PrIs A H0 H pa n hyps dx lh u at hp
    have hq : Kh375.apply ⟨n, hyps⟩ .contradiction = (⟨n, hyps⟩, match Kh375.contradiction (Kh375.knownEntries ⟨n, hyps⟩) with
      | none => Kh375.single (-33)
      | some points => ⟨0, Kh375.integers points⟩) := rfl
    rw [hq] at q
    clear hq
    refine ⟨_, (pss_cons (ps_set (i := 3) sc_contradiction.nd rfl (Or.inl rfl) (C8.pe_c (c_known_theory T) hr (by decide) rfl (pa_cons (pv 0) pa_nil)))
        (pss_cons (ps_for PassesOwn.never rfl (pi_list (pe_fld (pv 3) rfl)) (pg_name (i := 4) sc_contradiction.nd rfl (Or.inl rfl))
        (pss_one (ps_if (PW.pt (pw_and (pt_cmpR op_eq (pe_ix ix_tup (pv 4) pe_int (fun _ _ => rfl)) (C8.pe_gc rfl T.g_APART) (nomark _)) (pw_and1 (pt_cmp (pc_din (hu_of hr) (pe_tup (pa_cons (C8.pe_gc rfl T.g_COLLINEAR) (pa_cons (pe_ix ix_tup (pv 4) pe_int (fun _ _ => rfl)) (pa_cons (pe_ix ix_tup (pv 4) pe_int (fun _ _ => rfl)) (pa_cons (pe_ix ix_tup (pv 4) pe_int (fun _ _ => rfl)) pa_nil))))) (pe_fld (pv 3) rfl)) rfl)))) (pss_one (ps_ret (pe_lst (pa_cons pe_int (pa_cons (pe_ix ix_tup (pv 4) pe_int (fun _ _ => rfl)) (pa_cons (pe_ix ix_tup (pv 4) pe_int (fun _ _ => rfl)) (pa_cons (pe_ix ix_tup (pv 4) pe_int (fun _ _ => rfl)) pa_nil))))))) pss_nil)))
        (pss_one (ps_ret (pe_lst (pa_cons (pe_un un_neg pe_int) pa_nil)))))), ?_⟩
    refine ⟨_, rfl, pa, n, hyps, dx, lh, u, H0, rfl, hp, sm, fun H1 t Hz sx hp1 hth => ?_⟩
    obtain ⟨tx, lo, dr, dk, ds, L, th⟩ := hth
    obtain ⟨ov, o2, o3⟩ := th.order
    obtain ⟨rv, r2, _, r4⟩ := th.rounds
    have S1 := sx.base sm hp.fpa
    have hes := kn_fl hp.n7 hp.fl
    have ol := o3.length
    rw [List.length_map, List.length_map] at ol
    dsimp only [KnE] at o3 r4 hes
    generalize eE : Kh375.knownEntries ⟨n, hyps⟩ = entries at *
    refine ⟨_, rfl, t, A.ct, tx, _, _, rfl, th.ins, T.k_Theory.cl, T.t_order, rfl, lo, rfl, ⟨ov, SqL.of o2⟩, for_list (K := K) (a := lo) (xs := ov) (fun i σ Hc => ∃ x4, σ = [some (.ref pa), some (.ref ln), some (.ref lr), some (.ref t), x4] ∧ L2.Same H1 Hc ∧ ∀ e ∈ entries.take i, (e.fact.kind == 6 && Kh375.contains entries ⟨0, e.fact.points⟩) = false)
      ⟨none, rfl, fun _ _ z => z, by simp⟩ (fun i σ Hc _ ⟨_, _, z, _⟩ => SqL.of (z _ _ o2)) ?_ ?_⟩
    · rintro i y σ Hc hy ⟨x4, rfl, s2, hno⟩
      obtain ⟨g, hg, hga⟩ := paired_at o3 hy
      rw [List.getElem?_map, List.getElem?_map] at hg
      obtain ⟨e, he, rfl⟩ : ∃ e, entries[i]? = some e ∧ g = e.fact := by
        cases e : entries[i]? with
        | none => rw [e] at hg; cases hg
        | some e' => rw [e] at hg; exact ⟨e', rfl, (Option.some.inj hg).symm⟩
      obtain ⟨ag, rfl, hag⟩ := s2.tp hga
      have hmem := List.mem_of_getElem? he
      have va : Mi.Va n e.fact := hes.va e.fact (by rw [Mi.pr_facts]; exact List.mem_map.mpr ⟨e, hmem, rfl⟩)
      have next : (e.fact.kind == 6 && Kh375.contains entries ⟨0, e.fact.points⟩) = false → ∀ d ∈ entries.take (i + 1), (d.fact.kind == 6 && Kh375.contains entries ⟨0, d.fact.points⟩) = false := fun h d hd => by
        rw [take_snoc he, List.mem_append, List.mem_singleton] at hd
        rcases hd with hd | rfl
        · exact hno d hd
        · exact h
      refine ⟨_, rfl, ag, _, _, _, rfl, rfl, SqT.of hag, fV_at0 _, rfl, _, rfl, ite2 (fun h => ?_) fun h => ?_⟩
      · have ek : e.fact.kind = 6 := dec_vN (b := 6) |>.mp h
        obtain ⟨a, b', c, hpts⟩ : ∃ a b c, e.fact.points = [a, b, c] := by
          have hl := va.nf.len
          rw [ek] at hl
          match e.fact.points, hl with
          | [a, b, c], _ => exact ⟨a, b, c, rfl⟩
        have hvs : fV e.fact = [vN e.fact.kind, vN a, vN b', vN c] := by
          unfold fV
          rw [hpts]
          rfl
        rw [hvs] at hag
        have at1 : atI [vN e.fact.kind, vN a, vN b', vN c] 1 = some (vN a) := atI_nat (j := 1) rfl
        have at2 : atI [vN e.fact.kind, vN a, vN b', vN c] 2 = some (vN b') := atI_nat (j := 2) rfl
        have at3 : atI [vN e.fact.kind, vN a, vN b', vN c] 3 = some (vN c) := atI_nat (j := 3) rfl
        refine ⟨_, rfl, ag, _, _, _, rfl, rfl, SqT.of hag, at1, _, rfl, ag, _, _, _, rfl, rfl, SqT.of hag, at2, _, rfl, ag, _, _, _, rfl, rfl, SqT.of hag, at3, (by show 4 ≤ sizeLine; decide), fun k nk => ?_⟩
        (generalize hgen : upd _ _ _ = H3; have m3 := grow_same hgen nk; have t3 := grow_at hgen; clear hgen)
        have t3' : H3 k = some (.tup ((keyF ⟨0, e.fact.points⟩).map kV)) := by
          rw [t3, keyF_kV]
          unfold fV
          rw [hpts]
          rfl
        have hg2 : DGet H3 dr (.ref k) ((Mi.roundIn (entries.map Mi.pr) ⟨0, e.fact.points⟩).map vN) := by
          have z := DGet.t (m3 _ _ (s2 _ _ r2)) t3'
          rw [r4] at z
          exact z
        have hso : ((Mi.roundIn (entries.map Mi.pr) ⟨0, e.fact.points⟩).map vN).isSome = Kh375.contains entries ⟨0, e.fact.points⟩ := by
          rw [Option.isSome_map, round_some, Mi.pr_facts, Bool.eq_iff_iff, decide_eq_true_eq, Mi.contains_iff]
        refine ⟨_, rfl, t, A.ct, tx, _, _, rfl, m3 _ _ (s2 _ _ th.ins), T.k_Theory.cl, T.t_rounds, rfl, dr, _, rfl, hg2, _, rfl, ?_⟩
        rw [hso]
        have S3 := (S1.trans s2).trans m3
        refine ite2 (fun h3 => ?_) fun h3 => ?_
        · have hag3 := m3 _ _ hag
          have hyes : (e.fact.kind == 6 && Kh375.contains entries ⟨0, e.fact.points⟩) = true := by rw [h3, ek]; rfl
          have hfind : Kh375.contradiction entries = some e.fact.points := by
            unfold Kh375.contradiction
            obtain ⟨il, e2⟩ := List.getElem?_eq_some_iff.mp he
            have e3 : entries = entries.take i ++ e :: entries.drop (i + 1) := by
              rw [← e2, ← List.drop_eq_getElem_cons il, List.take_append_drop]
            have key : ∀ l1 l2 : List Kh375.Entry, (∀ d ∈ l1, (d.fact.kind == 6 && Kh375.contains entries ⟨0, d.fact.points⟩) = false) → ((l1 ++ e :: l2).find? fun e => e.fact.kind == 6 && Kh375.contains entries ⟨0, e.fact.points⟩) = some e := fun l1 l2 hl => by
              rw [List.find?_append, List.find?_eq_none.mpr (fun x hx => by rw [hl x hx]; exact Bool.false_ne_true), Option.none_or, List.find?_cons_of_pos (p := fun e : Kh375.Entry => e.fact.kind == 6 && Kh375.contains entries ⟨0, e.fact.points⟩) hyes]
            have := key _ (entries.drop (i + 1)) hno
            rw [← e3] at this
            rw [this]
            rfl
          rw [hfind, hpts] at q
          refine ⟨_, rfl, ag, _, _, _, rfl, rfl, SqT.of hag3, at1, _, rfl, ag, _, _, _, rfl, rfl, SqT.of hag3, at2, _, rfl, ag, _, _, _, rfl, rfl, SqT.of hag3, at3, (by show 4 ≤ sizeLine; decide), fun l nl => ?_⟩
          (generalize hgen : upd _ _ _ = H4; have m4 := grow_same hgen nl; have t4 := grow_at hgen; clear hgen)
          exact q H4 l (S3.trans m4) (S3.free nl) (((hp1.same s2).same m3).same m4).at_ t4
        · refine ⟨_, rfl, s2.trans m3, next ?_⟩
          rw [Bool.eq_false_iff.mpr h3, Bool.and_false]
      · refine ⟨_, rfl, s2, next ?_⟩
        have : (e.fact.kind == 6) = false := by
          rw [beq_eq_false_iff_ne]
          exact fun z => h (dec_vN (b := 6) |>.mpr z)
        rw [this, Bool.false_and]
    · rintro σ Hc ⟨x4, rfl, s2, hno⟩
      rw [ol, List.take_length] at hno
      have hfind : Kh375.contradiction entries = none := by
        unfold Kh375.contradiction
        rw [List.find?_eq_none.mpr (fun x hx => by rw [hno x hx]; exact Bool.false_ne_true)]
        rfl
      rw [hfind] at q
      refine ⟨_, rfl, (by show 1 ≤ sizeLine; decide), fun l nl => ?_⟩
      (generalize hgen : upd _ _ _ = H4; have m4 := grow_same hgen nl; have t4 := grow_at hgen; clear hgen)
      have S3 := S1.trans s2
      exact q H4 l (S3.trans m4) (S3.free nl) ((hp1.same s2).same m4).at_ t4
end
end G
set_option Elab.async false
set_option maxRecDepth 100000
set_option maxHeartbeats 4000000
namespace G
open PySem PySem.Spec PyProof.Rows L2
open Kh375 (Fact Rule)
theorem flat_le {β : Type} {g : Fact → List β} (k : Nat) (fs : List Fact) (h : ∀ f ∈ fs, (g f).length ≤ k) : (fs.flatMap g).length ≤ k * fs.length := by
  induction fs with
  | nil => exact Nat.zero_le _
  | cons f fs ih =>
    rw [List.flatMap_cons, List.length_append, List.length_cons]
    have := h f (List.mem_cons_self ..)
    have := ih fun g hg => h g (List.mem_cons_of_mem _ hg)
    rw [Nat.mul_succ]
    omega
theorem prem_few {n : Nat} {fs : List Fact} {f : Fact} (va : Mi.Va n f) {k : Nat} {ps : List Fact} (h : Mi.reasonOf n (Mi.rdsOf fs) f = some (k, ps)) : ps.length ≤ 4 := by
  obtain ⟨rl, x, hrl, _, _, rfl⟩ := Mi.reason_fit va h
  have ok := Mi.rule_ok (List.mem_of_getElem? hrl)
  have := ok.nprem
  unfold Mi.premsOf
  refine Nat.le_trans (List.length_filterMap_le _ _) ?_
  rw [List.length_map]
  omega
section
variable {P : Program} {w : World} {K : PySem.W.Frag} {mg : Str → Option Value} {base : Heap} {A : Ad}
/-! reason: slots 0 problem, 1 numbers, 2 rows, 3 fact, 4 theory, 5 number, 6 premises, 7 found, 8 premise -/
abbrev s_reason : Stmt := topS 70
abbrev N_reason : List Str := ["problem", "numbers", "rows", "fact", "theory", "number", "premises", "found", "premise"]
theorem sc_reason : FnScope N_reason ["problem", "numbers", "rows"] (defScope s_reason) := C8.fnScope_by (by decide +kernel)
theorem c_reason (T : Txt K mg A) : C8.Cal P w K mg base 10 "reason" (sp_deed A (fun nums rows => .reason (num0 nums) (rowN rows 0)) okF) [] := by
  obtain ⟨f, fd, F, b⟩ := T.d_reason.ex
  refine C8.cal0 F b .nil sc_reason ?_ ?_
  · rintro vs H Q E ⟨pa, ln, lr, p, nums, rows, H0, rfl, _⟩
    rfl
  · rintro cdv _ outer s H vs Q E hr ⟨pa, ln, lr, ⟨n, hyps⟩, nums, rows, H0, rfl, ⟨dx, lh, u, hp⟩, sm, hn, hrw, ⟨ok1, r, rfl, hr0, hr4⟩, q⟩
    change PrIs A H0 H pa n hyps dx lh u at hp
    obtain ⟨us, ar, hus, hat, har⟩ := row_at hrw
    have har' : LN H ar (rowN [r] 0) := by
      show H ar = _
      rw [har, nn_row hr0]
      rfl
    refine ⟨_, (pss_cons (ps_set (i := 3) sc_reason.nd rfl (Or.inl rfl) (C8.pe_c (c_fact_of T) hr (by decide) rfl (pa_cons (pv 0) (pa_cons (pe_ix ix_list (pv 1) pe_int (fun _ _ => rfl)) (pa_cons (pe_ix ix_list (pv 2) pe_int (fun _ _ => rfl)) pa_nil)))))
        (pss_cons (ps_if (pt_cmpR op_isN (pv 3) pe_non (nomark _)) (pss_one (ps_ret (pe_lst (pa_cons (pe_un un_neg pe_int) pa_nil)))) pss_nil)
        (pss_cons (ps_set (i := 4) sc_reason.nd rfl (Or.inl rfl) (C8.pe_c (c_known_theory T) hr (by decide) rfl (pa_cons (pv 0) pa_nil)))
        (pss_cons (ps_if (pt_cmp (pc_dnotin (hu_of hr) (pv 3) (pe_fld (pv 4) rfl)) rfl) (pss_one (ps_ret (pe_lst (pa_cons (pe_un un_neg pe_int) pa_nil)))) pss_nil)
        (pss_cons (ps_if (pt_cmpR op_eq (pe_dget (hu_of hr) (pe_fld (pv 4) rfl) (pv 3) (fun _ _ => rfl)) pe_int (nomark _)) (pss_one (ps_ret (pe_lst (pa_cons (pe_un un_neg pe_int) pa_nil)))) pss_nil)
        (pss_cons (ps_asg (C8.pe_c (c_reason_of T) hr (by decide) rfl (pa_cons (pv 4) (pa_cons (pv 3) pa_nil))) (pg_tup rfl (pgs_cons (pg_name (i := 5) sc_reason.nd rfl (Or.inl rfl)) (pgs_cons (pg_name (i := 6) sc_reason.nd rfl (Or.inl rfl)) pgs_nil))))
        (pss_cons (ps_set (i := 7) sc_reason.nd rfl (Or.inl rfl) (pe_lst (pa_cons (pv 5) pa_nil)))
        (pss_cons (ps_for PassesOwn.never rfl (pi_list (pv 6)) (pg_name (i := 8) sc_reason.nd rfl (Or.inl rfl))
        (pss_one (ps_expr (pe_bm PySem.F.plainAttrs_list PySem.F.slot_list_extend PySem.F.type_list_extend mt_extend (pv 7) (pa_cons (pe_callTy call_list_of rfl T.n_list (by decide +kernel) (pa_cons (pv 8) pa_nil)) pa_nil)))))
        (pss_one (ps_ret (pv 7))))))))))), ?_⟩
    refine ⟨_, rfl, _, rfl, ln, _, _, _, rfl, rfl, SqL.of hn, num_at ok1, _, rfl, lr, _, _, _, rfl, rfl, SqL.of hus, hat, pa, ar, num0 nums, n, rowN [r] 0, hyps, dx, lh, u, H0, rfl, hp, har', (by show ((r.map Int.toNat)).length ≤ _; rw [List.length_map]; omega), fun H1 x m1 hx => ?_⟩
    have S1 := sm.trans m1
    have hp1 := hp.same m1
    refine ⟨_, rfl, rfl, _, rfl, ?_⟩
    have hq : (Kh375.apply ⟨n, hyps⟩ (.reason (num0 nums) (rowN [r] 0))) = (match Kh375.parseFact ⟨n, hyps⟩ (num0 nums) (rowN [r] 0) with
      | none => (⟨n, hyps⟩, Kh375.single (-22))
      | some f => (⟨n, hyps⟩, match Kh375.findEntry (Kh375.knownEntries ⟨n, hyps⟩) f with
        | none => Kh375.single (-33)
        | some e => match e.rule with
          | none => Kh375.single (-6)
          | some rule => ⟨rule, e.premises.flatMap fun g => Kh375.integers (Kh375.factValues g)⟩)) := rfl
    rw [hq] at q
    clear hq
    cases e : Kh375.parseFact ⟨n, hyps⟩ (num0 nums) (rowN [r] 0) with
    | none =>
      rw [e] at hx q
      cases hx
      refine iteT ⟨_, rfl, (by show 1 ≤ sizeLine; decide), fun l nl => ?_⟩
      (generalize hgen : upd _ _ _ = H2; have m2 := grow_same hgen nl; have t2 := grow_at hgen; clear hgen)
      exact q H2 l (S1.trans m2) (S1.free nl) (hp1.same m2).at_ t2
    | some g =>
      rw [e] at hx q
      obtain ⟨⟨ag, rfl, hag⟩, vg⟩ := hx
      dsimp only at q
      refine iteF ⟨_, rfl, pa, n, hyps, dx, lh, u, H0, rfl, hp1, S1, fun H2 t Hz sx hp2 hth => ?_⟩
      obtain ⟨tx, lo, dr, dk, ds, L, th⟩ := id hth
      obtain ⟨rv, r2, _, r4⟩ := th.rounds
      have S2 := sx.base S1 hp.fpa
      have h0 : 0 < n := by have := hp.n2; omega
      obtain ⟨rr, inv⟩ := Mi.known_inv hp.n7 h0 hp.fl
      have hag2 := sx _ _ (ne_kind hag hp1.ins fun z => nomatch z) hag
      have hes := kn_fl hp.n7 hp.fl
      have hg : DGet H2 dr (.ref ag) ((Mi.roundIn (KnE n hyps) g).map vN) := by
        have z := DGet.t r2 (by rw [keyF_kV]; exact hag2 : H2 ag = some (.tup ((keyF g).map kV)))
        rw [r4] at z
        exact z
      refine ⟨_, rfl, _, rfl, t, A.ct, tx, _, _, rfl, th.ins, T.k_Theory.cl, T.t_rounds, rfl, dr, _, rfl, hg, _, rfl, ?_⟩
      have hri : Mi.roundIn (KnE n hyps) g = (Kh375.findEntry (Kh375.knownEntries ⟨n, hyps⟩) g).map fun e => e.round := Mi.roundIn_pr _ g
      cases ef : Kh375.findEntry (Kh375.knownEntries ⟨n, hyps⟩) g with
      | none =>
        rw [ef] at q hri
        rw [hri]
        refine iteT ⟨_, rfl, (by show 1 ≤ sizeLine; decide), fun l nl => ?_⟩
        (generalize hgen : upd _ _ _ = H3; have m3 := grow_same hgen nl; have t3 := grow_at hgen; clear hgen)
        exact q H3 l (S2.trans m3) (S2.free nl) (hp2.same m3).at_ t3
      | some en =>
        rw [ef] at q hri
        obtain ⟨hem, hef⟩ := Mi.find_entry ef
        have hri2 : Mi.roundIn (KnE n hyps) g = some en.round := hri
        rw [hri2] at hg ⊢
        dsimp only at q
        refine iteF ⟨_, rfl, t, A.ct, tx, _, _, rfl, th.ins, T.k_Theory.cl, T.t_rounds, rfl, _, rfl, dr, _, rfl, hg, rfl, _, rfl, ite2 (fun h => ?_) fun h => ?_⟩
        · have hz : en.round = 0 := dec_vN (b := 0) |>.mp h
          rw [(Mi.ent_zero inv hem hz).1] at q
          refine ⟨_, rfl, (by show 1 ≤ sizeLine; decide), fun l nl => ?_⟩
          (generalize hgen : upd _ _ _ = H3; have m3 := grow_same hgen nl; have t3 := grow_at hgen; clear hgen)
          exact q H3 l (S2.trans m3) (S2.free nl) (hp2.same m3).at_ t3
        · have hz : 0 < en.round := by
            have : ¬ en.round = 0 := fun z => h (dec_vN (b := 0) |>.mpr z)
            omega
          obtain ⟨k, hk, hre⟩ := Mi.ent_reason hp.n7 inv hem hz
          rw [hk] at q
          rw [hef] at hre
          refine ⟨_, rfl, _, rfl, t, _, n, en.round, g, KnE n hyps, Hz, rfl, hth, hes, hp.n7, ⟨ag, rfl, hag2⟩, vg, hri2, fun H3 p lp m3 np nlp hp3 hlp => ?_⟩
          have hre' : Mi.reasonAt n (KnE n hyps) g en.round = some (k, en.premises) := hre
          rw [hre'] at hp3 hlp
          have few : en.premises.length ≤ 4 := prem_few vg hre
          have pva : ∀ f ∈ en.premises, f.points.length ≤ 4 := fun f hf => by
            obtain ⟨rl, x, hrl, fit, _, hps⟩ := Mi.reason_fit vg hre
            rw [hps] at hf
            have pfl := Mi.prior_fl hes en.round
            exact nf_len4 (pfl.va f (Mi.prems_in pfl.va (Mi.rule_ok (List.mem_of_getElem? hrl)) fit f hf)).nf
          obtain ⟨pv, hpv, hpvp⟩ := hlp
          change Paired (Tp H3) pv en.premises at hpvp
          refine ⟨p, _, rfl, SqT.of hp3, rfl, _, _, rfl, _, _, rfl, rfl, ?_⟩
          refine ⟨_, rfl, (by show 1 ≤ sizeLine; decide), fun l nl => ?_⟩
          (generalize hgen : upd _ _ _ = H4; have m4 := grow_same hgen nl; have t4 := grow_at hgen; clear hgen)
          have S4 := (S2.trans m3).trans m4
          refine ⟨_, rfl, lp, rfl, ⟨pv, SqL.of (m4 _ _ hpv)⟩, for_list (K := K) (a := lp) (xs := pv) (fun i σ H5 => ∃ x8, σ = [some (.ref pa), some (.ref ln), some (.ref lr), some (.ref ag), some (.ref t), some (vN k), some (.ref lp), some (.ref l), x8] ∧ L2.Same H3 H5 ∧ H5 l = some (.lst (vN k :: (en.premises.take i).flatMap fV)))
            ⟨none, rfl, m4, t4⟩ (fun i σ H5 _ ⟨_, _, z, _⟩ => SqL.of (z _ _ hpv)) ?_ ?_⟩
          · rintro i y σ H5 hy ⟨x8, rfl, s5, hl5⟩
            obtain ⟨g', hg', hga⟩ := paired_at hpvp hy
            obtain ⟨ag', rfl, hag'⟩ := s5.tp hga
            refine ⟨_, rfl, .inl ⟨rfl, _, SqL.of hl5⟩, _, rfl, ag', _, rfl, .inr (SqT.of hag'), fun l2 nl2 => ?_⟩
            (generalize hgen : upd _ _ _ = H6; have m6 := grow_same hgen nl2; have t6 := grow_at hgen; clear hgen)
            have hl6 := m6 _ _ hl5
            have e1 : (fV g').length ≤ 5 := by
              unfold fV
              rw [List.length_map, List.length_cons]
              have := pva g' (List.mem_of_getElem? hg')
              omega
            have e2 := flat_le (g := fV) 5 (en.premises.take i) fun f hf => by
              unfold fV
              rw [List.length_map, List.length_cons]
              have := pva f (List.mem_of_mem_take hf)
              omega
            have e3 : (en.premises.take i).length ≤ en.premises.length := List.length_take_le' _ _
            refine ⟨l, l2, _, _, rfl, rfl, hl6, t6, small_lineE ?_, ?_⟩
            · rw [List.length_cons]
              omega
            · refine ⟨_, rfl, (s5.trans m6).mut nl, ?_⟩
              rw [upd_same, take_snoc hg', List.flatMap_append, List.flatMap_singleton]
              rfl
          · rintro σ H5 ⟨x8, rfl, s5, hl5⟩
            rw [hpvp.length, List.take_length] at hl5
            have S5 := (S2.trans m3).trans s5
            refine ⟨_, rfl, q H5 l S5 ((S2.trans m3).free nl) ((hp2.same m3).same s5).at_ ?_⟩
            show H5 l = _
            rw [hl5]
            unfold rI
            dsimp only
            have e6 : (fun f : Fact => (Kh375.integers (Kh375.factValues f)).map V.int) = fV := by
              funext f
              unfold Kh375.integers Kh375.factValues fV
              rw [List.map_map]
              rfl
            rw [List.map_cons, List.map_flatMap, e6]
/-! proof: slots 0 problem, 1 numbers, 2 rows, 3 fact, 4 theory, 5 facts, 6 found, 7 other -/
abbrev s_proof : Stmt := topS 71
abbrev N_proof : List Str := ["problem", "numbers", "rows", "fact", "theory", "facts", "found", "other"]
theorem sc_proof : FnScope N_proof ["problem", "numbers", "rows"] (defScope s_proof) := C8.fnScope_by (by decide +kernel)
theorem c_proof (T : Txt K mg A) : C8.Cal P w K mg base 10 "proof" (sp_deed A (fun nums rows => .proof (num0 nums) (rowN rows 0)) okF) [] := by
  obtain ⟨f, fd, F, b⟩ := T.d_proof.ex
  refine C8.cal0 F b .nil sc_proof ?_ ?_
  · rintro vs H Q E ⟨pa, ln, lr, p, nums, rows, H0, rfl, _⟩
    rfl
  · rintro cdv _ outer s H vs Q E hr ⟨pa, ln, lr, ⟨n, hyps⟩, nums, rows, H0, rfl, ⟨dx, lh, u, hp⟩, sm, hn, hrw, ⟨ok1, r, rfl, hr0, hr4⟩, q⟩
    change PrIs A H0 H pa n hyps dx lh u at hp
    obtain ⟨us, ar, hus, hat, har⟩ := row_at hrw
    have har' : LN H ar (rowN [r] 0) := by
      show H ar = _
      rw [har, nn_row hr0]
      rfl
    refine ⟨_, (pss_cons (ps_set (i := 3) sc_proof.nd rfl (Or.inl rfl) (C8.pe_c (c_fact_of T) hr (by decide) rfl (pa_cons (pv 0) (pa_cons (pe_ix ix_list (pv 1) pe_int (fun _ _ => rfl)) (pa_cons (pe_ix ix_list (pv 2) pe_int (fun _ _ => rfl)) pa_nil)))))
        (pss_cons (ps_if (pt_cmpR op_isN (pv 3) pe_non (nomark _)) (pss_one (ps_ret (pe_lst (pa_cons (pe_un un_neg pe_int) pa_nil)))) pss_nil)
        (pss_cons (ps_set (i := 4) sc_proof.nd rfl (Or.inl rfl) (C8.pe_c (c_known_theory T) hr (by decide) rfl (pa_cons (pv 0) pa_nil)))
        (pss_cons (ps_if (pt_cmp (pc_dnotin (hu_of hr) (pv 3) (pe_fld (pv 4) rfl)) rfl) (pss_one (ps_ret (pe_lst (pa_cons (pe_un un_neg pe_int) pa_nil)))) pss_nil)
        (pss_cons (ps_set (i := 5) sc_proof.nd rfl (Or.inl rfl) (C8.pe_c (c_proof_of T) hr (by decide) rfl (pa_cons (pv 4) (pa_cons (pv 3) pa_nil))))
        (pss_cons (ps_set (i := 6) sc_proof.nd rfl (Or.inl rfl) (pe_lst (pa_cons (pe_callB call_len_seq rfl T.n_len PySem.boot_len (pa_cons (pv 5) pa_nil)) pa_nil)))
        (pss_cons (ps_for PassesOwn.never rfl (pi_list (pv 5)) (pg_name (i := 7) sc_proof.nd rfl (Or.inl rfl))
        (pss_one (ps_expr (pe_bm PySem.F.plainAttrs_list PySem.F.slot_list_extend PySem.F.type_list_extend mt_extend (pv 6) (pa_cons (C8.pe_c (c_line_of T) hr (by decide) rfl (pa_cons (pv 7) pa_nil)) pa_nil)))))
        (pss_one (ps_ret (pv 6)))))))))), ?_⟩
    refine ⟨_, rfl, _, rfl, ln, _, _, _, rfl, rfl, SqL.of hn, num_at ok1, _, rfl, lr, _, _, _, rfl, rfl, SqL.of hus, hat, pa, ar, num0 nums, n, rowN [r] 0, hyps, dx, lh, u, H0, rfl, hp, har', (by show ((r.map Int.toNat)).length ≤ _; rw [List.length_map]; omega), fun H1 x m1 hx => ?_⟩
    have S1 := sm.trans m1
    have hp1 := hp.same m1
    refine ⟨_, rfl, rfl, _, rfl, ?_⟩
    have hq : (Kh375.apply ⟨n, hyps⟩ (.proof (num0 nums) (rowN [r] 0))) = (match Kh375.parseFact ⟨n, hyps⟩ (num0 nums) (rowN [r] 0) with
      | none => (⟨n, hyps⟩, Kh375.single (-22))
      | some f => (⟨n, hyps⟩, if Kh375.contains (Kh375.knownEntries ⟨n, hyps⟩) f = false then Kh375.single (-33) else ⟨((Kh375.proofOf ⟨n, hyps⟩ f).length : Int), (Kh375.proofOf ⟨n, hyps⟩ f).flatMap fun e => Kh375.integers (Kh375.lineValues e.fact)⟩)) := rfl
    rw [hq] at q
    clear hq
    cases e : Kh375.parseFact ⟨n, hyps⟩ (num0 nums) (rowN [r] 0) with
    | none =>
      rw [e] at hx q
      cases hx
      refine iteT ⟨_, rfl, (by show 1 ≤ sizeLine; decide), fun l nl => ?_⟩
      (generalize hgen : upd _ _ _ = H2; have m2 := grow_same hgen nl; have t2 := grow_at hgen; clear hgen)
      exact q H2 l (S1.trans m2) (S1.free nl) (hp1.same m2).at_ t2
    | some g =>
      rw [e] at hx q
      obtain ⟨⟨ag, rfl, hag⟩, vg⟩ := hx
      dsimp only at q
      refine iteF ⟨_, rfl, pa, n, hyps, dx, lh, u, H0, rfl, hp1, S1, fun H2 t Hz sx hp2 hth => ?_⟩
      obtain ⟨tx, lo, dr, dk, ds, L, th⟩ := id hth
      obtain ⟨rv, r2, _, r4⟩ := th.rounds
      have S2 := sx.base S1 hp.fpa
      have h0 : 0 < n := by have := hp.n2; omega
      obtain ⟨rr, inv⟩ := Mi.known_inv hp.n7 h0 hp.fl
      have hag2 := sx _ _ (ne_kind hag hp1.ins fun z => nomatch z) hag
      have hes := kn_fl hp.n7 hp.fl
      have hg : DGet H2 dr (.ref ag) ((Mi.roundIn (KnE n hyps) g).map vN) := by
        have z := DGet.t r2 (by rw [keyF_kV]; exact hag2 : H2 ag = some (.tup ((keyF g).map kV)))
        rw [r4] at z
        exact z
      have hso : ((Mi.roundIn (KnE n hyps) g).map vN).isSome = Kh375.contains (Kh375.knownEntries ⟨n, hyps⟩) g := by
        rw [Option.isSome_map, round_some, Mi.pr_facts, Bool.eq_iff_iff, decide_eq_true_eq, Mi.contains_iff]
      refine ⟨_, rfl, _, rfl, t, A.ct, tx, _, _, rfl, th.ins, T.k_Theory.cl, T.t_rounds, rfl, dr, _, rfl, hg, _, rfl, ?_⟩
      rw [hso]
      cases hc : Kh375.contains (Kh375.knownEntries ⟨n, hyps⟩) g with
      | false =>
        rw [if_pos hc] at q
        refine iteT ⟨_, rfl, (by show 1 ≤ sizeLine; decide), fun l nl => ?_⟩
        (generalize hgen : upd _ _ _ = H3; have m3 := grow_same hgen nl; have t3 := grow_at hgen; clear hgen)
        exact q H3 l (S2.trans m3) (S2.free nl) (hp2.same m3).at_ t3
      | true =>
        rw [if_neg (by rw [hc]; exact fun z => nomatch z)] at q
        have hgm : g ∈ (KnE n hyps).map (·.1) := by
          rw [Mi.pr_facts, ← Mi.contains_iff]
          exact hc
        refine iteF ⟨_, rfl, _, rfl, t, _, n, g, KnE n hyps, Hz, rfl, hth, hes, hp.n7, ⟨ag, rfl, hag2⟩, hgm, fun H3 p line m3 np hline hpl => ?_⟩
        have hfs : ((KnE n hyps).map (·.1)).filter (fun g => decide (g ∈ line)) = (Kh375.proofOf ⟨n, hyps⟩ g).map fun e => e.fact := by
          unfold Kh375.proofOf
          rw [Mi.pr_facts, List.filter_map]
          congr 1
          refine List.filter_congr fun d hd => ?_
          show decide (d.fact ∈ line) = (Kh375.withPremises _ _ [g]).contains d.fact
          rw [Bool.eq_iff_iff, decide_eq_true_eq, List.contains_iff_mem, hline, Mi.with_is hp.n7 inv (by rw [← Mi.pr_facts]; exact hgm), Mi.reach_congr (Mi.premW_is hp.n7 inv)]
        have hf5 : ∀ f ∈ (KnE n hyps).map (·.1), Mi.NF f := fun f hf => (hes.va f hf).nf
        have hsub : ∀ f ∈ ((KnE n hyps).map (·.1)).filter (fun g => decide (g ∈ line)), Mi.NF f := fun f hf => hf5 f (List.mem_filter.mp hf).1
        have hfew : (((KnE n hyps).map (·.1)).filter fun g => decide (g ∈ line)).length ≤ 840 := Nat.le_trans (List.length_filter_le _ _) (hes.few hp.n7)
        generalize eG : ((KnE n hyps).map (·.1)).filter (fun g => decide (g ∈ line)) = gs at *
        obtain ⟨vs, hD, hvs⟩ := hpl
        refine ⟨_, rfl, p, vs, rfl, .inl (SqL.of hD), (by show 1 ≤ sizeLine; decide), fun l nl => ?_⟩
        (generalize hgen : upd _ _ _ = H4; have m4 := grow_same hgen nl; have t4 := grow_at hgen; clear hgen)
        have l5 : ∀ f, Mi.NF f → (Kh375.lineValues f).length = 5 := fun f hf => by
          unfold Kh375.lineValues
          rw [List.length_append, List.length_cons, List.length_replicate]
          have := nf_len4 hf
          omega
        refine ⟨_, rfl, p, rfl, ⟨vs, SqL.of (m4 _ _ hD)⟩, for_list (K := K) (a := p) (xs := vs) (fun i σ H5 => ∃ x7, σ = [some (.ref pa), some (.ref ln), some (.ref lr), some (.ref ag), some (.ref t), some (.ref p), some (.ref l), x7] ∧ L2.Same H3 H5 ∧ H5 l = some (.lst (.int (vs.length : Nat) :: ((gs.take i).flatMap Kh375.lineValues).map vN)))
          ⟨none, rfl, m4, t4⟩ (fun i σ H5 _ ⟨_, _, z, _⟩ => SqL.of (z _ _ hD)) ?_ ?_⟩
        · rintro i y σ H5 hy ⟨x7, rfl, s5, hl5⟩
          obtain ⟨g', hg', hga⟩ := paired_at hvs hy
          have gm := hsub g' (List.mem_of_getElem? hg')
          refine ⟨_, rfl, .inl ⟨rfl, _, SqL.of hl5⟩, _, rfl, y, g', rfl, s5.tp hga, gm, fun H6 l2 m6 nl2 hl2 => ?_⟩
          have hl6 := m6 _ _ hl5
          have e2 := flat_le (g := Kh375.lineValues) 5 (gs.take i) fun f hf => Nat.le_of_eq (l5 f (hsub f (List.mem_of_mem_take hf)))
          have e3 : (gs.take i).length ≤ gs.length := List.length_take_le' _ _
          refine ⟨l, l2, _, _, rfl, rfl, hl6, hl2, small_lineE ?_, ?_⟩
          · rw [List.length_cons, List.length_map, List.length_map, l5 g' gm]
            omega
          · refine ⟨_, rfl, (s5.trans m6).mut nl, ?_⟩
            rw [upd_same, take_snoc hg', List.flatMap_append, List.flatMap_singleton, List.map_append]
            rfl
        · rintro σ H5 ⟨x7, rfl, s5, hl5⟩
          have e4 : vs.length = gs.length := hvs.length
          rw [e4, List.take_length] at hl5
          have S5 := (S2.trans m3).trans s5
          refine ⟨_, rfl, q H5 l S5 ((S2.trans m3).free nl) ((hp2.same m3).same s5).at_ ?_⟩
          show H5 l = _
          rw [hl5]
          unfold rI
          dsimp only
          have e5 : (Kh375.proofOf ⟨n, hyps⟩ g).length = gs.length := by rw [hfs, List.length_map]
          have e6 : ((Kh375.proofOf ⟨n, hyps⟩ g).flatMap fun e => Kh375.integers (Kh375.lineValues e.fact)) = (gs.flatMap Kh375.lineValues).map fun n : Nat => (n : Int) := by
            rw [hfs, List.flatMap_map, List.map_flatMap]
            rfl
          rw [e5, e6, List.map_cons, List.map_map]
          rfl
/-! needed_hypotheses: slots 0 problem, 1 numbers, 2 rows, 3 fact, 4 theory, 5 found -/
abbrev s_needed_hypotheses : Stmt := topS 72
abbrev N_needed_hypotheses : List Str := ["problem", "numbers", "rows", "fact", "theory", "found"]
theorem sc_needed_hypotheses : FnScope N_needed_hypotheses ["problem", "numbers", "rows"] (defScope s_needed_hypotheses) := C8.fnScope_by (by decide +kernel)
theorem c_needed_hypotheses (T : Txt K mg A) : C8.Cal P w K mg base 10 "needed_hypotheses" (sp_deed A (fun nums rows => .neededHypotheses (num0 nums) (rowN rows 0)) okF) [] := by
  obtain ⟨f, fd, F, b⟩ := T.d_needed_hypotheses.ex
  refine C8.cal0 F b .nil sc_needed_hypotheses ?_ ?_
  · rintro vs H Q E ⟨pa, ln, lr, p, nums, rows, H0, rfl, _⟩
    rfl
  · rintro cdv _ outer s H vs Q E hr ⟨pa, ln, lr, ⟨n, hyps⟩, nums, rows, H0, rfl, ⟨dx, lh, u, hp⟩, sm, hn, hrw, ⟨ok1, r, rfl, hr0, hr4⟩, q⟩
    change PrIs A H0 H pa n hyps dx lh u at hp
    obtain ⟨us, ar, hus, hat, har⟩ := row_at hrw
    have har' : LN H ar (rowN [r] 0) := by
      show H ar = _
      rw [har, nn_row hr0]
      rfl
    refine ⟨_, (pss_cons (ps_set (i := 3) sc_needed_hypotheses.nd rfl (Or.inl rfl) (C8.pe_c (c_fact_of T) hr (by decide) rfl (pa_cons (pv 0) (pa_cons (pe_ix ix_list (pv 1) pe_int (fun _ _ => rfl)) (pa_cons (pe_ix ix_list (pv 2) pe_int (fun _ _ => rfl)) pa_nil)))))
        (pss_cons (ps_if (pt_cmpR op_isN (pv 3) pe_non (nomark _)) (pss_one (ps_ret (pe_lst (pa_cons (pe_un un_neg pe_int) pa_nil)))) pss_nil)
        (pss_cons (ps_set (i := 4) sc_needed_hypotheses.nd rfl (Or.inl rfl) (C8.pe_c (c_known_theory T) hr (by decide) rfl (pa_cons (pv 0) pa_nil)))
        (pss_cons (ps_if (pt_cmp (pc_dnotin (hu_of hr) (pv 3) (pe_fld (pv 4) rfl)) rfl) (pss_one (ps_ret (pe_lst (pa_cons (pe_un un_neg pe_int) pa_nil)))) pss_nil)
        (pss_cons (ps_set (i := 5) sc_needed_hypotheses.nd rfl (Or.inl rfl) (C8.pe_c (c_needed T) hr (by decide) rfl (pa_cons (pe_fld (pv 0) rfl) (pa_cons (pe_fld (pv 0) rfl) (pa_cons (pv 4) (pa_cons (pv 3) pa_nil))))))
        (pss_one (ps_ret (pe_op op_cat (pe_lst (pa_cons (pe_callB call_len_seq rfl T.n_len PySem.boot_len (pa_cons (pv 5) pa_nil)) pa_nil)) (pv 5))))))))), ?_⟩
    refine ⟨_, rfl, _, rfl, ln, _, _, _, rfl, rfl, SqL.of hn, num_at ok1, _, rfl, lr, _, _, _, rfl, rfl, SqL.of hus, hat, pa, ar, num0 nums, n, rowN [r] 0, hyps, dx, lh, u, H0, rfl, hp, har', (by show ((r.map Int.toNat)).length ≤ _; rw [List.length_map]; omega), fun H1 x m1 hx => ?_⟩
    have S1 := sm.trans m1
    have hp1 := hp.same m1
    refine ⟨_, rfl, rfl, _, rfl, ?_⟩
    have hq : (Kh375.apply ⟨n, hyps⟩ (.neededHypotheses (num0 nums) (rowN [r] 0))) = (match Kh375.parseFact ⟨n, hyps⟩ (num0 nums) (rowN [r] 0) with
      | none => (⟨n, hyps⟩, Kh375.single (-22))
      | some f => (⟨n, hyps⟩, if Kh375.contains (Kh375.knownEntries ⟨n, hyps⟩) f = false then Kh375.single (-33) else ⟨((Kh375.neededHypotheses ⟨n, hyps⟩ f).length : Int), Kh375.integers (Kh375.neededHypotheses ⟨n, hyps⟩ f)⟩)) := rfl
    rw [hq] at q
    clear hq
    cases e : Kh375.parseFact ⟨n, hyps⟩ (num0 nums) (rowN [r] 0) with
    | none =>
      rw [e] at hx q
      cases hx
      refine iteT ⟨_, rfl, (by show 1 ≤ sizeLine; decide), fun l nl => ?_⟩
      (generalize hgen : upd _ _ _ = H2; have m2 := grow_same hgen nl; have t2 := grow_at hgen; clear hgen)
      exact q H2 l (S1.trans m2) (S1.free nl) (hp1.same m2).at_ t2
    | some g =>
      rw [e] at hx q
      obtain ⟨⟨ag, rfl, hag⟩, vg⟩ := hx
      dsimp only at q
      refine iteF ⟨_, rfl, pa, n, hyps, dx, lh, u, H0, rfl, hp1, S1, fun H2 t Hz sx hp2 hth => ?_⟩
      obtain ⟨tx, lo, dr, dk, ds, L, th⟩ := id hth
      obtain ⟨rv, r2, _, r4⟩ := th.rounds
      have S2 := sx.base S1 hp.fpa
      have h0 : 0 < n := by have := hp.n2; omega
      have hag2 := sx _ _ (ne_kind hag hp1.ins fun z => nomatch z) hag
      have hg : DGet H2 dr (.ref ag) ((Mi.roundIn (KnE n hyps) g).map vN) := by
        have z := DGet.t r2 (by rw [keyF_kV]; exact hag2 : H2 ag = some (.tup ((keyF g).map kV)))
        rw [r4] at z
        exact z
      have hso : ((Mi.roundIn (KnE n hyps) g).map vN).isSome = Kh375.contains (Kh375.knownEntries ⟨n, hyps⟩) g := by
        rw [Option.isSome_map, round_some, Mi.pr_facts, Bool.eq_iff_iff, decide_eq_true_eq, Mi.contains_iff]
      refine ⟨_, rfl, _, rfl, t, A.ct, tx, _, _, rfl, th.ins, T.k_Theory.cl, T.t_rounds, rfl, dr, _, rfl, hg, _, rfl, ?_⟩
      rw [hso]
      cases hc : Kh375.contains (Kh375.knownEntries ⟨n, hyps⟩) g with
      | false =>
        rw [if_pos hc] at q
        refine iteT ⟨_, rfl, (by show 1 ≤ sizeLine; decide), fun l nl => ?_⟩
        (generalize hgen : upd _ _ _ = H3; have m3 := grow_same hgen nl; have t3 := grow_at hgen; clear hgen)
        exact q H3 l (S2.trans m3) (S2.free nl) (hp2.same m3).at_ t3
      | true =>
        rw [if_neg (by rw [hc]; exact fun z => nomatch z)] at q
        have hgm : g ∈ (KnE n hyps).map (·.1) := by
          rw [Mi.pr_facts, ← Mi.contains_iff]
          exact hc
        refine iteF ⟨_, rfl, pa, A.cp, dx, _, _, rfl, hp2.ins, T.k_Problem.cl, T.p_many, rfl, _, rfl, pa, A.cp, dx, _, _, rfl, hp2.ins, T.k_Problem.cl, T.p_hypotheses, rfl, _, rfl, _, rfl, n, lh, t, _, g, hyps, Hz, rfl, hp2.hyp, hp.fl, hth, h0, hp.n7, ⟨ag, rfl, hag2⟩, hgm, fun H3 p m3 np hpn => ?_⟩
        have hnl : (Kh375.neededHypotheses ⟨n, hyps⟩ g).length ≤ 16 := by
          refine Nat.le_trans ?_ hp.few
          unfold Kh375.neededHypotheses
          refine Nat.le_trans (List.length_filter_le _ _) ?_
          rw [List.length_range]
          exact Nat.le_refl _
        refine ⟨_, rfl, p, _, rfl, .inl (SqL.of hpn), (by show 1 ≤ sizeLine; decide), fun l1 nl1 => ?_⟩
        (generalize hgen : upd _ _ _ = H4; have m4 := grow_same hgen nl1; have t4 := grow_at hgen; clear hgen)
        refine ⟨_, rfl, l1, p, _, _, rfl, rfl, t4, m4 _ _ hpn, small_lineE ?_, fun l nl => ?_⟩
        · rw [List.length_singleton, List.length_map]
          omega
        (generalize hgen : upd _ _ _ = H5; have m5 := grow_same hgen nl; have t5 := grow_at hgen; clear hgen)
        have S5 := ((S2.trans m3).trans m4).trans m5
        refine q H5 l S5 (((S2.trans m3).trans m4).free nl) (((hp2.same m3).same m4).same m5).at_ ?_
        show H5 l = _
        rw [t5, List.length_map]
        unfold rI Kh375.integers
        dsimp only
        rw [List.map_cons, List.map_map]
        rfl
end
end G
/-! lines of a proof. -/
namespace Mi
open Kh375
def lineFact (p : Problem) (l : List Nat) : Option Fact := if pointCounts.getD (l.getD 0 0) 0 = 3 ∧ l.getD 4 0 ≠ 0 then none else parseFact p (l.getD 0 0) ((l.drop 1).take (pointCounts.getD (l.getD 0 0) 0))
def chunk (l : List Nat) (j : Nat) : List Nat := (l.drop (5 * j)).take 5
def lineFacts (p : Problem) (l : List Nat) (m : Nat) : List (Option Fact) := (List.range m).map fun j => lineFact p (chunk l j)
theorem parse_lines {p : Problem} : ∀ (m : Nat) {l : List Nat} {fuel : Nat}, l.length = 5 * m → l.length ≤ fuel → parseLines p fuel l = if (lineFacts p l m).all (fun o => o.isSome) = true then some ((lineFacts p l m).filterMap id) else none
  | 0, l, fuel, hl, _ => by
    rw [List.eq_nil_of_length_eq_zero (by omega : l.length = 0)]
    cases fuel <;> rfl
  | m + 1, l, fuel, hl, hf => by
    match l, hl with
    | k :: a :: b :: c :: d :: rest, hl =>
      cases fuel with
      | zero => simp at hf
      | succ fuel =>
        simp only [List.length_cons] at hl hf
        have ih := parse_lines (p := p) m (l := rest) (fuel := fuel) (by omega) (by omega)
        have e1 : lineFacts p (k :: a :: b :: c :: d :: rest) (m + 1) = lineFact p [k, a, b, c, d] :: lineFacts p rest m := by
          unfold lineFacts
          rw [List.range_succ_eq_map, List.map_cons, List.map_map]
          congr 1
        have e2 : lineFact p [k, a, b, c, d] = if pointCounts.getD k 0 = 3 ∧ d ≠ 0 then none else parseFact p k ([a, b, c, d].take (pointCounts.getD k 0)) := rfl
        rw [e1]
        unfold parseLines
        rw [ih, List.all_cons, e2]
        by_cases h1 : pointCounts.getD k 0 = 3 ∧ d ≠ 0
        · rw [if_pos h1, if_pos h1]
          rfl
        · rw [if_neg h1, if_neg h1]
          cases e : parseFact p k ([a, b, c, d].take (pointCounts.getD k 0)) with
          | none => rfl
          | some f =>
            by_cases h2 : (lineFacts p rest m).all (fun o => o.isSome) = true
            · rw [if_pos h2, if_pos (by rw [h2]; rfl)]
              rfl
            · rw [if_neg h2, if_neg (by rw [Bool.and_eq_true]; exact fun z => h2 z.2)]
              rfl
theorem parse_bad {p : Problem} : ∀ (k : Nat) {l : List Nat} {fuel : Nat}, l.length ≤ k → l.length % 5 ≠ 0 → parseLines p fuel l = none
  | k, l, fuel, hk, h => by
    match l, fuel with
    | [], _ => simp at h
    | _ :: _, 0 => rfl
    | [_], _ + 1 => rfl
    | [_, _], _ + 1 => rfl
    | [_, _, _], _ + 1 => rfl
    | [_, _, _, _], _ + 1 => rfl
    | q :: a :: b :: c :: d :: rest, fuel + 1 =>
      simp only [List.length_cons] at hk h
      unfold parseLines
      split
      · rfl
      · split
        · rfl
        · cases k with
          | zero => omega
          | succ k => rw [parse_bad (p := p) k (l := rest) (fuel := fuel) (by omega) (by omega)]; rfl
end Mi
set_option Elab.async false
set_option maxRecDepth 100000
set_option maxHeartbeats 4000000
namespace G
open PySem PySem.Spec PyProof.Rows L2
open Kh375 (Fact Rule)
theorem fits {i : Int} (h1 : -1000000 ≤ i) (h2 : i ≤ 1000000) : Builtin.Range.rangeFitsLong i = true := by
  unfold Builtin.Range.rangeFitsLong
  rw [Bool.and_eq_true, decide_eq_true_eq, decide_eq_true_eq]
  constructor <;> omega
theorem rg_of {c : Int} {l m : Nat} (hc : 1 ≤ c) (hc2 : c ≤ 5) (hm : m ≤ 1000) (hl : l ≤ 5000) (e : Builtin.Range.rangeSize 0 (l : Int) c = (m : Int)) : RgC 0 (l : Int) c m := by
  refine ⟨by omega, by omega, ?_, e⟩
  unfold Builtin.Range.small
  rw [e, if_pos (by omega), fits (by omega) (by omega), fits (i := (l : Int)) (by omega) (by omega), fits (i := c) (by omega) (by omega), fits (i := (m : Int)) (by omega) (by omega), fits (i := (l : Int) + (c - 1)) (by omega) (by omega), Bool.or_true]
  rfl
theorem rg5 {m : Nat} (hm : m ≤ 1000) : RgC 0 ((5 * m : Nat) : Int) 5 m := rg_of (by decide) (by decide) hm (by omega) (by
  rw [PyProof.Rows.rangeSize_pos (by decide) (by omega)]
  omega)
theorem rg2 {m : Nat} (hm : m ≤ 1000) : RgC 0 ((2 * m : Nat) : Int) 2 m := rg_of (by decide) (by decide) hm (by omega) (by
  rw [PyProof.Rows.rangeSize_pos (by decide) (by omega)]
  omega)
theorem gname_if {i : Nat} {x : V} {c : TT} {t u v : TS} {D : Ends} {σ : L2.St} {H : Hp} (h : c (σ.set i (some x)) H fun b H1 => if b = true then t { D with nx := v D } (σ.set i (some x)) H1 else u { D with nx := v D } (σ.set i (some x)) H1) : gName i x σ H (tSeq (tIfS c t u) v D) := h
theorem cut_mid {xs : List V} (i j : Nat) (h : i ≤ j) : cutV xs (some (i : Int)) (some (j : Int)) = (xs.drop i).take (j - i) := by
  unfold cutV
  rw [HT.sIx_nat, HT.sIx_nat]
  by_cases h1 : i ≤ xs.length
  · rw [Nat.min_eq_left h1]
    by_cases h2 : j ≤ xs.length
    · rw [Nat.min_eq_left h2]
    · rw [Nat.min_eq_right (by omega), List.take_of_length_le (by rw [List.length_drop]; exact Nat.le_refl _), List.take_of_length_le (by rw [List.length_drop]; omega)]
  · rw [Nat.min_eq_right (by omega), Nat.min_eq_right (by omega), Nat.sub_self, List.take_zero, List.drop_eq_nil_of_le (by omega), List.take_nil]
section
variable {P : Program} {w : World} {K : PySem.W.Frag} {mg : Str → Option Value} {base : Heap} {A : Ad}
/-! line_fact: slots 0 problem, 1 line, 2 size -/
abbrev s_line_fact : Stmt := topS 73
abbrev N_line_fact : List Str := ["problem", "line", "size"]
theorem sc_line_fact : FnScope N_line_fact ["problem", "line"] (defScope s_line_fact) := C8.fnScope_by (by decide +kernel)
def sp_line_fact (A : Ad) : Sp := fun vs H Q _ => ∃ (pa a : Addr) (n : Nat) (ns : List Nat) (hyps : List Fact) (dx lh : Addr) (u : V) (H0 : Hp), vs = [.ref pa, .ref a] ∧ PrIs A H0 H pa n hyps dx lh u ∧ LN H a ns ∧ ns.length = 5 ∧
  ∀ H' x, L2.Same H H' → OpF n H' x (Mi.lineFact ⟨n, hyps⟩ ns) → Q x H'
theorem c_line_fact (T : Txt K mg A) : C8.Cal P w K mg base 4 "line_fact" (sp_line_fact A) [] := by
  obtain ⟨f, fd, F, b⟩ := T.d_line_fact.ex
  refine C8.cal0 F b .nil sc_line_fact ?_ ?_
  · rintro vs H Q E ⟨pa, a, n, ns, hyps, dx, lh, u, H0, rfl, _⟩
    rfl
  · rintro cdv _ outer s H vs Q E hr ⟨pa, a, n, ns, hyps, dx, lh, u, H0, rfl, hp, ha, hlen, q⟩
    have a0 : atI (ns.map vN) 0 = some (vN (ns.getD 0 0)) := at_nat (j := 0) (by omega)
    have a4 : atI (ns.map vN) 4 = some (vN (ns.getD 4 0)) := at_nat (j := 4) (by omega)
    refine ⟨_, (pss_cons (ps_if (pt_cmpR op_gt (pe_ix ix_list (pv 1) pe_int (fun _ _ => rfl)) (C8.pe_gc rfl T.g_MOST_KIND) (nomark _)) (pss_one (ps_ret pe_non)) pss_nil)
        (pss_cons (ps_set (i := 2) sc_line_fact.nd rfl (Or.inl rfl) (pe_ix ix_tup (C8.pe_gc rfl T.g_SIZES) (pe_ix ix_list (pv 1) pe_int (fun _ _ => rfl)) (fun _ _ => rfl)))
        (pss_cons (ps_if (PW.pt (pw_and (pt_cmpR op_eq (pv 2) pe_int (nomark _)) (pw_and1 (pt_cmpR op_ne (pe_ix ix_list (pv 1) pe_int (fun _ _ => rfl)) pe_int (nomark _))))) (pss_one (ps_ret pe_non)) pss_nil)
        (pss_one (ps_ret (C8.pe_c (c_fact_of T) hr (by decide) rfl (pa_cons (pv 0) (pa_cons (pe_ix ix_list (pv 1) pe_int (fun _ _ => rfl)) (pa_cons (pe_slice sl_list (pv 1) (po_some pe_int) (po_some (pe_op op_add pe_int (pv 2)))) pa_nil))))))))), ?_⟩
    refine ⟨_, rfl, a, _, _, _, rfl, rfl, SqL.of ha, a0, _, _, rfl, rfl, _, rfl, ite2 (fun h => q H _ (fun _ _ z => z) ?_) fun h => ?_⟩
    · have hk : 6 < ns.getD 0 0 := by have := of_decide_eq_true h; omega
      unfold Mi.lineFact
      rw [Mi.parse_big hk]
      split <;> rfl
    have hk : ns.getD 0 0 < 7 := by
      have : ¬ (6 : Int) < ((ns.getD 0 0 : Nat) : Int) := fun z => h (decide_eq_true z)
      omega
    refine ⟨_, rfl, a, _, _, _, rfl, rfl, SqL.of ha, a0, A.sizes, _, _, _, rfl, rfl, T.sizes H, at_nat hk, ?_⟩
    dsimp only
    refine gname_if ?_
    refine and_by (b1 := decide (vN (Kh375.pointCounts.getD (ns.getD 0 0) 0) = vN 3)) (b2 := !decide (vN (ns.getD 4 0) = vN 0)) ?_ ?_ ?_
    · exact fun k z => ⟨_, rfl, rfl, _, rfl, z⟩
    · exact fun k z => ⟨_, rfl, a, _, _, _, rfl, rfl, SqL.of ha, a4, rfl, _, rfl, z⟩
    refine ite2 (fun h3 => q H _ (fun _ _ z => z) ?_) fun h3 => ?_
    · rw [Bool.and_eq_true] at h3
      unfold Mi.lineFact
      rw [if_pos ⟨dec_vN.mp h3.1, dec_ne.mp h3.2⟩]
      rfl
    · have hno : ¬ (Kh375.pointCounts.getD (ns.getD 0 0) 0 = 3 ∧ ns.getD 4 0 ≠ 0) := fun z => h3 (by rw [Bool.and_eq_true]; exact ⟨dec_vN.mpr z.1, dec_ne.mpr z.2⟩)
      have hlf : Mi.lineFact ⟨n, hyps⟩ ns = Kh375.parseFact ⟨n, hyps⟩ (ns.getD 0 0) ((ns.drop 1).take (Kh375.pointCounts.getD (ns.getD 0 0) 0)) := by
        unfold Mi.lineFact
        rw [if_neg hno]
      rw [hlf] at q
      refine ⟨_, rfl, _, rfl, a, _, _, _, rfl, rfl, SqL.of ha, a0, ?_⟩
      refine ⟨_, rfl, _, rfl, _, rfl, _, _, rfl, rfl, _, rfl, a, _, rfl, SqL.of ha, fun l nl => ?_⟩
      rw [show ((1 : Int) + (Kh375.pointCounts.getD (ns.getD 0 0) 0 : Nat)) = ((1 + Kh375.pointCounts.getD (ns.getD 0 0) 0 : Nat) : Int) by omega, show (some (1 : Int)) = some ((1 : Nat) : Int) from rfl, cut_mid _ _ (by omega), Nat.add_sub_cancel_left, ← List.map_drop, ← List.map_take]
      (generalize hgen : upd _ _ _ = H1; have m1 := grow_same hgen nl; have t1 := grow_at hgen; clear hgen)
      refine ⟨pa, l, _, n, _, hyps, dx, lh, u, H0, rfl, hp.same m1, t1, ?_, fun H2 x m2 hx => q H2 x (m1.trans m2) hx⟩
      rw [List.length_take, List.length_drop]
      omega
def okP (nums : List Nat) (rows : List (List Int)) : Prop := nums = [] ∧ ∃ r, rows = [r] ∧ (∀ x ∈ r, 0 ≤ x) ∧ r.length ≤ 200
theorem opF_same {n : Nat} {H H' : Hp} {x : V} {o : Option Fact} (e : L2.Same H H') (h : OpF n H x o) : OpF n H' x o := by
  cases o with
  | none => exact h
  | some f => exact ⟨e.tp h.1, h.2⟩
theorem opF_tk {n : Nat} {H H' : Hp} {x : V} {o : Option Fact} (e : Tk H H') (h : OpF n H x o) : OpF n H' x o := by
  cases o with
  | none => exact h
  | some f => exact ⟨e.tp h.1, h.2⟩
theorem opF_all {n : Nat} {H : Hp} : ∀ {vs : List V} {os : List (Option Fact)}, Paired (OpF n H) vs os → os.all (fun o => o.isSome) = true → Paired (Tp H) vs (os.filterMap id) ∧ ∀ f ∈ os.filterMap id, Mi.Va n f
  | _, _, .nil, _ => ⟨.nil, by simp⟩
  | _, _, .cons (b := none) h t, e => by simp at e
  | _, _, .cons (b := some f) h t, e => by
    rw [List.all_cons, Bool.and_eq_true] at e
    obtain ⟨h1, h2⟩ := opF_all t e.2
    refine ⟨.cons h.1 h1, fun g hg => ?_⟩
    rcases List.mem_cons.mp (show g ∈ f :: _ from hg) with rfl | hg
    · exact h.2
    · exact h2 g hg
/-! check_proof: slots 0 problem, 1 numbers, 2 rows, 3 facts, 4 at, 5 fact -/
abbrev s_check_proof : Stmt := topS 74
abbrev N_check_proof : List Str := ["problem", "numbers", "rows", "facts", "at", "fact"]
theorem sc_check_proof : FnScope N_check_proof ["problem", "numbers", "rows"] (defScope s_check_proof) := C8.fnScope_by (by decide +kernel)
theorem c_check_proof (T : Txt K mg A) : C8.Cal P w K mg base 10 "check_proof" (sp_deed A (fun _ rows => .checkProof (rowN rows 0)) okP) [] := by
  obtain ⟨f, fd, F, b⟩ := T.d_check_proof.ex
  refine C8.cal0 F b .nil sc_check_proof ?_ ?_
  · rintro vs H Q E ⟨pa, ln, lr, p, nums, rows, H0, rfl, _⟩
    rfl
  · rintro cdv _ outer s H vs Q E hr ⟨pa, ln, lr, ⟨n, hyps⟩, nums, rows, H0, rfl, ⟨dx, lh, u, hp⟩, sm, hn, hrw, ⟨rfl, r, rfl, hr0, hr2⟩, q⟩
    change PrIs A H0 H pa n hyps dx lh u at hp
    obtain ⟨us, ar, hus, hat, har⟩ := row_at hrw
    have har' : LN H ar (rowN [r] 0) := by
      show H ar = _
      rw [har, nn_row hr0]
      rfl
    have hnl : (rowN [r] 0).length = r.length := by show (r.map Int.toNat).length = _; rw [List.length_map]
    dsimp only at q
    generalize eN : rowN [r] 0 = ns at *
    have hq : (Kh375.apply ⟨n, hyps⟩ (.checkProof ns)) = (⟨n, hyps⟩, match Kh375.parseLines ⟨n, hyps⟩ ns.length ns with
      | none => Kh375.single (-22)
      | some facts => ⟨(Kh375.correctLines ⟨n, hyps⟩ [] facts : Int), [(facts.length : Int)]⟩) := rfl
    rw [hq] at q
    clear hq
    refine ⟨_, (pss_cons (ps_if (pt_cmpR op_ne (pe_op op_mod (pe_callB call_len_seq rfl T.n_len PySem.boot_len (pa_cons (pe_ix ix_list (pv 2) pe_int (fun _ _ => rfl)) pa_nil)) pe_int) pe_int (nomark _)) (pss_one (ps_ret (pe_lst (pa_cons (pe_un un_neg pe_int) pa_nil)))) pss_nil)
        (pss_cons (ps_setLc (i := 3) (own := [("at", 4)]) (g := gName 4) (by rfl) sc_check_proof.nd rfl rfl (sw_true rfl rfl rfl (by decide +kernel)) (pi_range3 rfl T.n_range (pa_cons pe_int (pa_cons (pe_callB call_len_seq rfl T.n_len PySem.boot_len (pa_cons (pe_ix ix_list (pv 2) pe_int (fun _ _ => rfl)) pa_nil)) (pa_cons pe_int pa_nil)))) (blkOk_by (own := [("at", 4)]) (N := N_check_proof) (sc := defScope s_check_proof) (by decide +kernel)) (fun _ _ _ _ _ => pg_name (i := 4) sc_check_proof.nd rfl (Or.inl rfl)) (fun _ _ _ _ _ => pts_nil) (fun _ _ _ _ _ => (C8.pe_c (c_line_fact T) hr (by decide) rfl (pa_cons (pv 0) (pa_cons (pe_slice (sl_listK K rfl) (pe_ix (ix_listK K rfl) (pv 2) pe_int (fun _ _ => rfl)) (po_some (pv 4)) (po_some (pe_op op_add (pv 4) pe_int))) pa_nil)))))
        (pss_cons (ps_if (pt_not (pt_val (pe_callB (cr_all rfl) rfl T.n_all (by decide +kernel) (pa_cons (pe_lc (own := [("fact", 5)]) (g := gName 5) (by rfl) sc_check_proof.nd (pi_list (pv 3)) (blkOk_by (own := [("fact", 5)]) (N := N_check_proof) (sc := defScope s_check_proof) (by decide +kernel)) (fun _ _ _ _ _ => pg_name (i := 5) sc_check_proof.nd rfl (Or.inl rfl)) (fun _ _ _ _ _ => pts_nil) (fun _ _ _ _ _ => (pe_cmpR op_notN (pv 5) pe_non (nomark _)))) pa_nil)))) (pss_one (ps_ret (pe_lst (pa_cons (pe_un un_neg pe_int) pa_nil)))) pss_nil)
        (pss_one (ps_ret (pe_lst (pa_cons (C8.pe_c (c_correct_count T) hr (by decide) rfl (pa_cons (pe_fld (pv 0) rfl) (pa_cons (pe_fld (pv 0) rfl) (pa_cons (pv 3) pa_nil)))) (pa_cons (pe_callB call_len_seq rfl T.n_len PySem.boot_len (pa_cons (pv 3) pa_nil)) pa_nil)))))))), ?_⟩
    have hml : (ns.map vN).length = ns.length := List.length_map ..
    refine ⟨_, rfl, lr, _, _, _, rfl, rfl, SqL.of hus, hat, ar, _, rfl, .inl (SqL.of har'), _, _, rfl, rfl, (by show (0 : Int) < 5; decide), rfl, _, rfl, ite2 (fun h => ?_) fun h => ?_⟩
    · have hbad : ns.length % 5 ≠ 0 := fun z => by
        rw [hml] at h
        have : V.int ((ns.length : Int) % 5) = V.int 0 := by congr 1; omega
        rw [decide_eq_true this] at h
        cases h
      rw [Mi.parse_bad ns.length (Nat.le_refl _) hbad] at q
      refine ⟨_, rfl, (by show 1 ≤ sizeLine; decide), fun l nl => ?_⟩
      (generalize hgen : upd _ _ _ = H1; have m1 := grow_same hgen nl; have t1 := grow_at hgen; clear hgen)
      exact q H1 l (sm.trans m1) (sm.free nl) (hp.same m1).at_ t1
    · obtain ⟨m, hm⟩ : ∃ m, ns.length = 5 * m := by
        refine ⟨ns.length / 5, ?_⟩
        by_cases c : ns.length % 5 = 0
        · omega
        · refine absurd ?_ h
          rw [hml]
          have : ¬ V.int ((ns.length : Int) % 5) = V.int 0 := fun z => c (by have := V.int.inj z; omega)
          rw [decide_eq_false this]
          rfl
      rw [Mi.parse_lines m hm (Nat.le_refl _)] at q
      refine ⟨_, rfl, lr, _, _, _, rfl, rfl, SqL.of hus, hat, ar, _, rfl, .inl (SqL.of har'), 0, _, 5, m, rfl, by rw [hml, hm]; exact rg5 (by omega), fun D nD => ?_⟩
      refine lc_it (walk_rangeC (lo := 0) (c := 5) (n := m)) (fun i Hx => L2.Same H Hx ∧ ∃ vs, Hx D = some (.lst vs) ∧ Paired (OpF n Hx) vs (Mi.lineFacts ⟨n, hyps⟩ ns i)) ⟨L2.Same.new nD, [], upd_same, .nil⟩ (fun _ _ _ _ => trivial) ?_ ?_
      · rintro i x Hx _ hi ⟨s1, vs, hD, hvs⟩ ⟨rfl, rfl⟩
        refine ⟨rfl, _, rfl, _, rfl, lr, _, _, _, rfl, rfl, SqL.of (s1 _ _ hus), hat, _, rfl, _, rfl, _, rfl, _, _, rfl, rfl, _, rfl, ar, _, rfl, SqL.of (s1 _ _ har'), fun l nl => ?_⟩
        have ec : cutV (ns.map vN) (some (0 + (i : Int) * 5)) (some (0 + (i : Int) * 5 + 5)) = (Mi.chunk ns i).map vN := by
          rw [show (0 + (i : Int) * 5) = ((5 * i : Nat) : Int) by omega, show (((5 * i : Nat) : Int) + 5) = ((5 * i + 5 : Nat) : Int) by omega, cut_mid _ _ (by omega), Nat.add_sub_cancel_left, ← List.map_drop, ← List.map_take]
          rfl
        rw [ec]
        (generalize hgen : upd _ _ _ = H2; have m2 := grow_same hgen nl; have t2 := grow_at hgen; clear hgen)
        refine ⟨pa, l, n, Mi.chunk ns i, hyps, dx, lh, u, H0, rfl, (hp.same s1).same m2, t2, ?_, fun H3 x m3 hx => ?_⟩
        · unfold Mi.chunk
          rw [List.length_take, List.length_drop]
          omega
        · have S3 := m2.trans m3
          have hD3 := S3 _ _ hD
          have tk := tk_lst (o := .lst (vs ++ [x])) hD3
          have vl := hvs.length
          refine ⟨vs, hD3, ?_, (s1.trans S3).mut nD, vs ++ [x], upd_same, ?_⟩
          · refine small_line ?_
            rw [vl]
            unfold Mi.lineFacts
            rw [List.length_map, List.length_range]
            omega
          · have : Mi.lineFacts ⟨n, hyps⟩ ns (i + 1) = Mi.lineFacts ⟨n, hyps⟩ ns i ++ [Mi.lineFact ⟨n, hyps⟩ (Mi.chunk ns i)] := by
              unfold Mi.lineFacts
              rw [List.range_succ, List.map_append]
              rfl
            rw [this]
            exact Paired.snoc (L2.Paired.mapP hvs fun _ _ z => opF_tk (S3.tk.trans tk) z) (opF_tk tk hx)
      · rintro Hx ⟨s1, vs, hD, hvs⟩
        have osl : (Mi.lineFacts ⟨n, hyps⟩ ns m).length = m := by
          unfold Mi.lineFacts
          rw [List.length_map, List.length_range]
        generalize Mi.lineFacts ⟨n, hyps⟩ ns m = os at *
        have vl := hvs.length
        have S1 := sm.trans s1
        have hp1 := hp.same s1
        refine ⟨_, rfl, D, rfl, ⟨vs, SqL.of hD⟩, fun D2 nD2 => ?_⟩
        refine lc_list (K := K) (a := D) (xs := vs) (fun i Hy => L2.Same Hx Hy ∧ Hy D2 = some (.lst (((os.take i).map fun o => o.isSome).map V.bl))) ⟨L2.Same.new nD2, upd_same⟩ (fun i Hy _ ⟨z, _⟩ => SqL.of (z _ _ hD)) ?_ ?_
        · rintro i y Hy hy ⟨s2, hD2⟩
          obtain ⟨o, ho, hop⟩ := paired_at hvs hy
          refine ⟨rfl, _, rfl, rfl, _, hD2, ?_, s2.mut nD2, ?_⟩
          · refine small_line ?_
            rw [List.length_map, List.length_map, List.length_take]
            omega
          · rw [upd_same, take_snoc ho]
            cases o with
            | none =>
              cases hop
              simp
            | some f =>
              obtain ⟨⟨af, rfl, _⟩, _⟩ := hop
              simp
        · rintro Hy ⟨s2, hD2⟩
          rw [vl, List.take_length] at hD2
          have eall : ((os.map fun o => o.isSome).all id) = os.all fun o => o.isSome := by
            rw [List.all_map]
            rfl
          refine ⟨D2, _, rfl, SqL.of hD2, _, rfl, ?_⟩
          rw [eall]
          refine ite2 (fun h3 => ?_) fun h3 => ?_
          · have hf : os.all (fun o => o.isSome) = false := by simpa using h3
            rw [if_neg (by rw [hf]; exact Bool.false_ne_true)] at q
            refine ⟨_, rfl, (by show 1 ≤ sizeLine; decide), fun l nl => ?_⟩
            (generalize hgen : upd _ _ _ = H4; have m4 := grow_same hgen nl; have t4 := grow_at hgen; clear hgen)
            exact q H4 l ((S1.trans s2).trans m4) ((S1.trans s2).free nl) ((hp1.same s2).same m4).at_ t4
          · have ht : os.all (fun o => o.isSome) = true := by
              cases e : os.all fun o => o.isSome with
              | true => rfl
              | false => rw [e] at h3; exact absurd rfl h3
            rw [if_pos ht] at q
            obtain ⟨hfp, hva⟩ := opF_all hvs ht
            have hp2 := hp1.same s2
            have hfl : (os.filterMap id).length = vs.length := hfp.length.symm
            refine ⟨_, rfl, pa, A.cp, dx, _, _, rfl, hp2.ins, T.k_Problem.cl, T.p_many, rfl, _, rfl, pa, A.cp, dx, _, _, rfl, hp2.ins, T.k_Problem.cl, T.p_hypotheses, rfl, _, rfl, n, lh, D, hyps, os.filterMap id, rfl, hp2.hyp, ⟨vs, s2 _ _ hD, s2.tps hfp⟩, hva, hp.n7, by omega, fun H4 m4 => ?_⟩
            refine ⟨_, rfl, D, vs, rfl, .inl (SqL.of (m4 _ _ (s2 _ _ hD))), (by show 2 ≤ sizeLine; decide), fun l nl => ?_⟩
            (generalize hgen : upd _ _ _ = H5; have m5 := grow_same hgen nl; have t5 := grow_at hgen; clear hgen)
            have S4 := (S1.trans s2).trans m4
            refine q H5 l (S4.trans m5) (S4.free nl) ((hp2.same m4).same m5).at_ ?_
            show H5 l = _
            rw [t5]
            unfold rI
            dsimp only
            rw [hfl]
            rfl
end
end G
/-! drawings. -/
namespace Mi
open Kh375
theorem circle_is (a b c d : Point) :
    dot d a d a * cross d b d c - dot d b d b * cross d a d c + dot d c d c * cross d a d b = squareSum a * cross b c b d - squareSum b * cross a c a d + squareSum c * cross a b a d - squareSum d * cross a b a c := by
  unfold dot cross squareSum
  grind
theorem mid_is (m a b : Int) : decide (m - a = b - m) = (2 * m == a + b) := by
  rw [Bool.eq_iff_iff, decide_eq_true_eq, beq_iff_eq]
  omega
theorem drawing_at : ∀ (n : Nat) {r : List Int}, r.length = 2 * n → (drawingOf r).length = n ∧ ∀ i, i < n → (drawingOf r)[i]? = some ⟨r.getD (2 * i) 0, r.getD (2 * i + 1) 0⟩
  | 0, r, h => by
    rw [List.eq_nil_of_length_eq_zero (by omega : r.length = 0)]
    exact ⟨rfl, fun i hi => absurd hi (Nat.not_lt_zero _)⟩
  | n + 1, r, h => by
    match r, h with
    | x :: y :: rest, h =>
      simp only [List.length_cons] at h
      obtain ⟨h1, h2⟩ := drawing_at n (r := rest) (by omega)
      refine ⟨by show (drawingOf rest).length + 1 = n + 1; rw [h1], fun i hi => ?_⟩
      cases i with
      | zero => rfl
      | succ i =>
        show (drawingOf rest)[i]? = _
        rw [h2 i (by omega)]
        rfl
theorem distinct_iff : ∀ l : List Point, pointsAreDistinct l = true ↔ l.Nodup
  | [] => by simp [pointsAreDistinct]
  | p :: l => by
    unfold pointsAreDistinct
    rw [Bool.and_eq_true, distinct_iff l, List.nodup_cons, List.all_eq_true]
    refine and_congr_left fun _ => ⟨fun h hm => ?_, fun h q hq => ?_⟩
    · have := h p hm
      simp at this
    · rw [bne_iff_ne]
      exact fun z => h (by rw [z]; exact hq)
/-- a list with as many members as the nodup list of its members has none twice -/
theorem nodup_of {α : Type} [DecidableEq α] : ∀ {m l : List α}, l.Nodup → (∀ x ∈ l, x ∈ m) → (∀ x ∈ m, x ∈ l) → m.length = l.length → m.Nodup
  | [], _, _, _, _, _ => List.nodup_nil
  | a :: m, l, hn, h1, h2, hl => by
    have ha : a ∉ m := fun ha => by
      have := sub_len hn fun x hx => show x ∈ m by
        rcases List.mem_cons.mp (h1 x hx) with rfl | h
        · exact ha
        · exact h
      rw [List.length_cons] at hl
      omega
    have hal := h2 a (List.mem_cons_self ..)
    rw [List.nodup_cons]
    refine ⟨ha, nodup_of (l := l.erase a) (hn.erase a) (fun x hx => ?_) (fun x hx => ?_) ?_⟩
    · have hx2 := List.mem_of_mem_erase hx
      have ne : x ≠ a := fun z => by
        subst z
        exact (List.Nodup.not_mem_erase hn) hx
      exact (List.mem_cons.mp (h1 x hx2)).resolve_left ne
    · have ne : x ≠ a := fun z => ha (by rw [← z]; exact hx)
      exact (List.mem_erase_of_ne ne).mpr (h2 x (List.mem_cons_of_mem _ hx))
    · rw [List.length_erase_of_mem hal, ← hl, List.length_cons, Nat.add_sub_cancel]
def Pin (p : Point) : Prop := -1000 ≤ p.x ∧ p.x ≤ 1000 ∧ -1000 ≤ p.y ∧ p.y ≤ 1000
end Mi
set_option Elab.async false
set_option maxRecDepth 100000
set_option maxHeartbeats 4000000
namespace G
open PySem PySem.Spec PyProof.Rows L2
open Kh375 (Fact Rule Point)
/-- a pair of ints -/
def Sp2 (H : Hp) (v : V) (x y : Int) : Prop := ∃ a, v = .ref a ∧ H a = some (.tup [.int x, .int y])
theorem _root_.L2.Same.sp2 {H H' : Hp} {v : V} {x y : Int} (e : L2.Same H H') (h : Sp2 H v x y) : Sp2 H' v x y := by
  obtain ⟨a, e1, e2⟩ := h
  exact ⟨a, e1, e _ _ e2⟩
def Big (x : Int) : Prop := -(2 ^ 60) ≤ x ∧ x ≤ 2 ^ 60
theorem Big.mul {x y : Int} (h : Big x) : CMul x y := .inl ⟨by have := h.1; omega, by have := h.2; omega⟩
theorem dec_int (i j : Int) : decide (V.int i = V.int j) = (i == j) := by
  rw [Bool.eq_iff_iff, decide_eq_true_eq, beq_iff_eq]
  exact ⟨fun h => V.int.inj h, fun h => by rw [h]⟩
section
variable {P : Program} {w : World} {K : PySem.W.Frag} {mg : Str → Option Value} {base : Heap} {A : Ad}
/-! vector: slots 0 start, 1 end -/
abbrev s_vector : Stmt := topS 22
abbrev N_vector : List Str := ["start", "end"]
theorem sc_vector : FnScope N_vector ["start", "end"] (defScope s_vector) := C8.fnScope_by (by decide +kernel)
def sp_vector : Sp := fun vs H Q _ => ∃ (v u : V) (x y x' y' : Int), vs = [v, u] ∧ Sp2 H v x y ∧ Sp2 H u x' y' ∧ ∀ H' p, L2.Same H H' → Sp2 H' (.ref p) (x' - x) (y' - y) → Q (.ref p) H'
theorem c_vector (T : Txt K mg A) : C8.Cal P w K mg base 1 "vector" sp_vector [] := by
  obtain ⟨f, fd, F, b⟩ := T.d_vector.ex
  refine C8.cal0 F b .nil sc_vector ?_ ?_
  · rintro vs H Q E ⟨v, u, x, y, x', y', rfl, _⟩
    rfl
  · rintro cdv _ outer s H vs Q E hr ⟨_, _, x, y, x', y', rfl, ⟨a, rfl, ha⟩, ⟨a', rfl, ha'⟩, q⟩
    have e0 : ∀ p q : Int, atI [V.int p, V.int q] 0 = some (.int p) := fun p q => atI_nat (j := 0) rfl
    have e1 : ∀ p q : Int, atI [V.int p, V.int q] 1 = some (.int q) := fun p q => atI_nat (j := 1) rfl
    refine ⟨_, (pss_one (ps_ret (pe_tup (pa_cons (pe_op op_sub (pe_ix ix_tup (pv 1) pe_int (fun _ _ => rfl)) (pe_ix ix_tup (pv 0) pe_int (fun _ _ => rfl))) (pa_cons (pe_op op_sub (pe_ix ix_tup (pv 1) pe_int (fun _ _ => rfl)) (pe_ix ix_tup (pv 0) pe_int (fun _ _ => rfl))) pa_nil))))), ?_⟩
    refine ⟨_, rfl, a', _, _, _, rfl, rfl, SqT.of ha', e0 _ _, _, rfl, a, _, _, _, rfl, rfl, SqT.of ha, e0 _ _, _, _, rfl, rfl, _, rfl, a', _, _, _, rfl, rfl, SqT.of ha', e1 _ _, _, rfl, a, _, _, _, rfl, rfl, SqT.of ha, e1 _ _, _, _, rfl, rfl, (by show 2 ≤ sizeLine; decide), fun p np => ?_⟩
    exact q _ p (L2.Same.new np) ⟨p, rfl, upd_same⟩
/-! cross: slots 0 one, 1 other -/
abbrev s_cross : Stmt := topS 23
abbrev N_cross : List Str := ["one", "other"]
theorem sc_cross : FnScope N_cross ["one", "other"] (defScope s_cross) := C8.fnScope_by (by decide +kernel)
def sp_cross : Sp := fun vs H Q _ => ∃ (v u : V) (x y x' y' : Int), vs = [v, u] ∧ Sp2 H v x y ∧ Sp2 H u x' y' ∧ Big x ∧ Big y ∧ Q (.int (x * y' - y * x')) H
theorem c_cross (T : Txt K mg A) : C8.Cal P w K mg base 1 "cross" sp_cross [] := by
  obtain ⟨f, fd, F, b⟩ := T.d_cross.ex
  refine C8.cal0 F b .nil sc_cross ?_ ?_
  · rintro vs H Q E ⟨v, u, x, y, x', y', rfl, _⟩
    rfl
  · rintro cdv _ outer s H vs Q E hr ⟨_, _, x, y, x', y', rfl, ⟨a, rfl, ha⟩, ⟨a', rfl, ha'⟩, bx, by', q⟩
    have e0 : ∀ p q : Int, atI [V.int p, V.int q] 0 = some (.int p) := fun p q => atI_nat (j := 0) rfl
    have e1 : ∀ p q : Int, atI [V.int p, V.int q] 1 = some (.int q) := fun p q => atI_nat (j := 1) rfl
    refine ⟨_, (pss_one (ps_ret (pe_op op_sub (pe_op op_mul (pe_ix ix_tup (pv 0) pe_int (fun _ _ => rfl)) (pe_ix ix_tup (pv 1) pe_int (fun _ _ => rfl))) (pe_op op_mul (pe_ix ix_tup (pv 0) pe_int (fun _ _ => rfl)) (pe_ix ix_tup (pv 1) pe_int (fun _ _ => rfl)))))), ?_⟩
    exact ⟨_, rfl, a, _, _, _, rfl, rfl, SqT.of ha, e0 _ _, _, rfl, a', _, _, _, rfl, rfl, SqT.of ha', e1 _ _, _, _, rfl, rfl, bx.mul, _, rfl, a, _, _, _, rfl, rfl, SqT.of ha, e1 _ _, _, rfl, a', _, _, _, rfl, rfl, SqT.of ha', e0 _ _, _, _, rfl, rfl, by'.mul, _, _, rfl, rfl, q⟩
/-! dot: slots 0 one, 1 other -/
abbrev s_dot : Stmt := topS 24
abbrev N_dot : List Str := ["one", "other"]
theorem sc_dot : FnScope N_dot ["one", "other"] (defScope s_dot) := C8.fnScope_by (by decide +kernel)
def sp_dot : Sp := fun vs H Q _ => ∃ (v u : V) (x y x' y' : Int), vs = [v, u] ∧ Sp2 H v x y ∧ Sp2 H u x' y' ∧ Big x ∧ Big y ∧ Q (.int (x * x' + y * y')) H
theorem c_dot (T : Txt K mg A) : C8.Cal P w K mg base 1 "dot" sp_dot [] := by
  obtain ⟨f, fd, F, b⟩ := T.d_dot.ex
  refine C8.cal0 F b .nil sc_dot ?_ ?_
  · rintro vs H Q E ⟨v, u, x, y, x', y', rfl, _⟩
    rfl
  · rintro cdv _ outer s H vs Q E hr ⟨_, _, x, y, x', y', rfl, ⟨a, rfl, ha⟩, ⟨a', rfl, ha'⟩, bx, by', q⟩
    have e0 : ∀ p q : Int, atI [V.int p, V.int q] 0 = some (.int p) := fun p q => atI_nat (j := 0) rfl
    have e1 : ∀ p q : Int, atI [V.int p, V.int q] 1 = some (.int q) := fun p q => atI_nat (j := 1) rfl
    refine ⟨_, (pss_one (ps_ret (pe_op op_add (pe_op op_mul (pe_ix ix_tup (pv 0) pe_int (fun _ _ => rfl)) (pe_ix ix_tup (pv 1) pe_int (fun _ _ => rfl))) (pe_op op_mul (pe_ix ix_tup (pv 0) pe_int (fun _ _ => rfl)) (pe_ix ix_tup (pv 1) pe_int (fun _ _ => rfl)))))), ?_⟩
    exact ⟨_, rfl, a, _, _, _, rfl, rfl, SqT.of ha, e0 _ _, _, rfl, a', _, _, _, rfl, rfl, SqT.of ha', e0 _ _, _, _, rfl, rfl, bx.mul, _, rfl, a, _, _, _, rfl, rfl, SqT.of ha, e1 _ _, _, rfl, a', _, _, _, rfl, rfl, SqT.of ha', e1 _ _, _, _, rfl, rfl, by'.mul, _, _, rfl, rfl, q⟩
/-- a point -/
abbrev SpP (H : Hp) (v : V) (p : Point) : Prop := Sp2 H v p.x p.y
theorem pin_big {p q : Point} (hp : Mi.Pin p) (hq : Mi.Pin q) : Big (q.x - p.x) ∧ Big (q.y - p.y) := by
  obtain ⟨a, b, c, d⟩ := hp
  obtain ⟨a', b', c', d'⟩ := hq
  exact ⟨⟨by omega, by omega⟩, ⟨by omega, by omega⟩⟩
/-! area: slots 0 a, 1 b, 2 c -/
abbrev s_area : Stmt := topS 25
abbrev N_area : List Str := ["a", "b", "c"]
theorem sc_area : FnScope N_area ["a", "b", "c"] (defScope s_area) := C8.fnScope_by (by decide +kernel)
def sp_area : Sp := fun vs H Q _ => ∃ (v u z : V) (a b c : Point), vs = [v, u, z] ∧ SpP H v a ∧ SpP H u b ∧ SpP H z c ∧ Mi.Pin a ∧ Mi.Pin b ∧ Mi.Pin c ∧ ∀ H', L2.Same H H' → Q (.int (Kh375.cross a b a c)) H'
theorem c_area (T : Txt K mg A) : C8.Cal P w K mg base 2 "area" sp_area [] := by
  obtain ⟨f, fd, F, b⟩ := T.d_area.ex
  refine C8.cal0 F b .nil sc_area ?_ ?_
  · rintro vs H Q E ⟨v, u, z, a, b, c, rfl, _⟩
    rfl
  · rintro cdv _ outer s H vs Q E hr ⟨v, u, z, a, b, c, rfl, ha, hb, hc, pa, pb, pc, q⟩
    refine ⟨_, (pss_one (ps_ret (C8.pe_c (c_cross T) hr (by decide) rfl (pa_cons (C8.pe_c (c_vector T) hr (by decide) rfl (pa_cons (pv 0) (pa_cons (pv 1) pa_nil))) (pa_cons (C8.pe_c (c_vector T) hr (by decide) rfl (pa_cons (pv 0) (pa_cons (pv 2) pa_nil))) pa_nil))))), ?_⟩
    refine ⟨_, rfl, _, rfl, _, _, _, _, _, _, rfl, ha, hb, fun H1 p1 m1 h1 => ⟨_, rfl, _, rfl, _, _, _, _, _, _, rfl, m1.sp2 ha, m1.sp2 hc, fun H2 p2 m2 h2 => ?_⟩⟩
    exact ⟨_, _, _, _, _, _, rfl, m2.sp2 h1, h2, (pin_big pa pb).1, (pin_big pa pb).2, q H2 (m1.trans m2)⟩
/-- a list of points -/
def SpL (H : Hp) (l : Addr) (ps : List Point) : Prop := ∃ us, H l = some (.lst us) ∧ Paired (SpP H) us ps
theorem spl_at {H : Hp} {l : Addr} {ps : List Point} (h : SpL H l ps) {i : Nat} {p : Point} (hp : ps[i]? = some p) : ∃ us v, H l = some (.lst us) ∧ atI us (i : Int) = some v ∧ SpP H v p := by
  obtain ⟨us, h1, h2⟩ := h
  obtain ⟨v, hv, hs⟩ := paired_get' h2 hp
  exact ⟨us, v, h1, atI_nat hv, hs⟩
theorem _root_.L2.Same.spl {H H' : Hp} {l : Addr} {ps : List Point} (e : L2.Same H H') (h : SpL H l ps) : SpL H' l ps := by
  obtain ⟨us, h1, h2⟩ := h
  exact ⟨us, e _ _ h1, L2.Paired.mapP h2 fun _ _ => e.sp2⟩
/-! pair_holds: slots 0 kind, 1 spots, 2 one, 3 other -/
abbrev s_pair_holds : Stmt := topS 27
abbrev N_pair_holds : List Str := ["kind", "spots", "one", "other"]
theorem sc_pair_holds : FnScope N_pair_holds ["kind", "spots"] (defScope s_pair_holds) := C8.fnScope_by (by decide +kernel)
def sp_pair_holds : Sp := fun vs H Q _ => ∃ (k : Nat) (l : Addr) (a b c d : Point), vs = [vN k, .ref l] ∧ SpL H l [a, b, c, d] ∧ (k = 1 ∨ k = 2 ∨ k = 3) ∧ Mi.Pin a ∧ Mi.Pin b ∧ Mi.Pin c ∧ Mi.Pin d ∧ ∀ H', L2.Same H H' → Q (.bl (Kh375.holdsFor k [a, b, c, d])) H'
theorem c_pair_holds (T : Txt K mg A) : C8.Cal P w K mg base 2 "pair_holds" sp_pair_holds [] := by
  obtain ⟨f, fd, F, b⟩ := T.d_pair_holds.ex
  refine C8.cal0 F b .nil sc_pair_holds ?_ ?_
  · rintro vs H Q E ⟨k, l, a, b, c, d, rfl, _⟩
    rfl
  · rintro cdv _ outer s H vs Q E hr ⟨k, l, a, b, c, d, rfl, hl, hk, pa, pb, pc, pd, q⟩
    obtain ⟨us, v0, h1, at0, s0⟩ := spl_at hl (i := 0) rfl
    obtain ⟨us1, v1, h1', at1, s1⟩ := spl_at hl (i := 1) rfl
    obtain rfl : us = us1 := HO.lst.inj (Option.some.inj (h1.symm.trans h1'))
    obtain ⟨us2, v2, h2', at2, s2⟩ := spl_at hl (i := 2) rfl
    obtain rfl : us = us2 := HO.lst.inj (Option.some.inj (h1.symm.trans h2'))
    obtain ⟨us3, v3, h3', at3, s3⟩ := spl_at hl (i := 3) rfl
    obtain rfl : us = us3 := HO.lst.inj (Option.some.inj (h1.symm.trans h3'))
    refine ⟨_, (pss_cons (ps_set (i := 2) sc_pair_holds.nd rfl (Or.inl rfl) (C8.pe_c (c_vector T) hr (by decide) rfl (pa_cons (pe_ix ix_list (pv 1) pe_int (fun _ _ => rfl)) (pa_cons (pe_ix ix_list (pv 1) pe_int (fun _ _ => rfl)) pa_nil))))
        (pss_cons (ps_set (i := 3) sc_pair_holds.nd rfl (Or.inl rfl) (C8.pe_c (c_vector T) hr (by decide) rfl (pa_cons (pe_ix ix_list (pv 1) pe_int (fun _ _ => rfl)) (pa_cons (pe_ix ix_list (pv 1) pe_int (fun _ _ => rfl)) pa_nil))))
        (pss_cons (ps_if (pt_cmpR op_eq (pv 0) (C8.pe_gc rfl T.g_PARALLEL) (nomark _)) (pss_one (ps_ret (pe_cmpR op_eq (C8.pe_c (c_cross T) hr (by decide) rfl (pa_cons (pv 2) (pa_cons (pv 3) pa_nil))) pe_int (nomark _)))) pss_nil)
        (pss_cons (ps_if (pt_cmpR op_eq (pv 0) (C8.pe_gc rfl T.g_PERPENDICULAR) (nomark _)) (pss_one (ps_ret (pe_cmpR op_eq (C8.pe_c (c_dot T) hr (by decide) rfl (pa_cons (pv 2) (pa_cons (pv 3) pa_nil))) pe_int (nomark _)))) pss_nil)
        (pss_one (ps_ret (pe_cmpR op_eq (C8.pe_c (c_dot T) hr (by decide) rfl (pa_cons (pv 2) (pa_cons (pv 2) pa_nil))) (C8.pe_c (c_dot T) hr (by decide) rfl (pa_cons (pv 3) (pa_cons (pv 3) pa_nil))) (nomark _)))))))), ?_⟩
    refine ⟨_, rfl, l, _, _, _, rfl, rfl, SqL.of h1, at0, _, rfl, l, _, _, _, rfl, rfl, SqL.of h1, at1, _, _, _, _, _, _, rfl, s0, s1, fun H1 p1 m1 g1 => ?_⟩
    refine ⟨_, rfl, l, _, _, _, rfl, rfl, SqL.of (m1 _ _ h1), at2, _, rfl, l, _, _, _, rfl, rfl, SqL.of (m1 _ _ h1), at3, _, _, _, _, _, _, rfl, m1.sp2 s2, m1.sp2 s3, fun H2 p2 m2 g2 => ?_⟩
    have g1' := m2.sp2 g1
    have b1 := pin_big pa pb
    have b2 := pin_big pc pd
    have qq := q H2 (m1.trans m2)
    rcases hk with rfl | rfl | rfl
    · refine ⟨_, rfl, rfl, _, rfl, iteT ⟨_, rfl, _, rfl, _, _, _, _, _, _, rfl, g1', g2, b1.1, b1.2, rfl, ?_⟩⟩
      rw [dec_int]
      exact qq
    · refine ⟨_, rfl, rfl, _, rfl, iteF ⟨_, rfl, rfl, _, rfl, iteT ⟨_, rfl, _, rfl, _, _, _, _, _, _, rfl, g1', g2, b1.1, b1.2, rfl, ?_⟩⟩⟩
      rw [dec_int]
      exact qq
    · refine ⟨_, rfl, rfl, _, rfl, iteF ⟨_, rfl, rfl, _, rfl, iteF ⟨_, rfl, _, rfl, _, _, _, _, _, _, rfl, g1', g1', b1.1, b1.2, _, rfl, _, rfl, _, _, _, _, _, _, rfl, g2, g2, b2.1, b2.2, rfl, ?_⟩⟩⟩
      rw [dec_int]
      exact qq
/-! circle_number: slots 0 a, 1 b, 2 c, 3 d, 4 rows, 5 squares, 6 found, 7 point, 8 row -/
abbrev s_circle_number : Stmt := topS 26
abbrev N_circle_number : List Str := ["a", "b", "c", "d", "rows", "squares", "found", "point", "row"]
theorem sc_circle_number : FnScope N_circle_number ["a", "b", "c", "d"] (defScope s_circle_number) := C8.fnScope_by (by decide +kernel)
def sp_circle_number : Sp := fun vs H Q _ => ∃ (va vb vc vd : V) (a b c d : Point), vs = [va, vb, vc, vd] ∧ SpP H va a ∧ SpP H vb b ∧ SpP H vc c ∧ SpP H vd d ∧ Mi.Pin a ∧ Mi.Pin b ∧ Mi.Pin c ∧ Mi.Pin d ∧
  ∀ H', L2.Same H H' → Q (.int (Kh375.dot d a d a * Kh375.cross d b d c - Kh375.dot d b d b * Kh375.cross d a d c + Kh375.dot d c d c * Kh375.cross d a d b)) H'
theorem big_dot {p q : Point} (hp : Mi.Pin p) (hq : Mi.Pin q) : Big (Kh375.dot p q p q) := by
  obtain ⟨a, b, c, d⟩ := hp
  obtain ⟨a', b', c', d'⟩ := hq
  have sq : ∀ t : Int, -2000 ≤ t → t ≤ 2000 → 0 ≤ t * t ∧ t * t ≤ 4000000 := fun t h1 h2 => by
    constructor
    · by_cases h : 0 ≤ t
      · exact Int.mul_nonneg h h
      · have := Int.mul_nonneg (show 0 ≤ -t by omega) (show 0 ≤ -t by omega)
        rw [Int.neg_mul_neg] at this
        exact this
    · by_cases h : 0 ≤ t
      · have := Int.mul_le_mul h2 h2 h (by decide)
        omega
      · have := Int.mul_le_mul (show -t ≤ 2000 by omega) (show -t ≤ 2000 by omega) (show 0 ≤ -t by omega) (by decide)
        rw [Int.neg_mul_neg] at this
        omega
  have h1 := sq (q.x - p.x) (by omega) (by omega)
  have h2 := sq (q.y - p.y) (by omega) (by omega)
  unfold Kh375.dot
  constructor <;> omega
theorem c_circle_number (T : Txt K mg A) : C8.Cal P w K mg base 2 "circle_number" sp_circle_number [] := by
  obtain ⟨f, fd, F, b⟩ := T.d_circle_number.ex
  refine C8.cal0 F b .nil sc_circle_number ?_ ?_
  · rintro vs H Q E ⟨va, vb, vc, vd, a, b, c, d, rfl, _⟩
    rfl
  · rintro cdv _ outer s H vs Q E hr ⟨va, vb, vc, vd, a, b, c, d, rfl, ha, hb, hc, hd, pa, pb, pc, pd, q⟩
    refine ⟨_, (pss_cons (ps_setLc (i := 4) (own := [("point", 7)]) (g := gName 7) (by rfl) sc_circle_number.nd rfl rfl (sw_true rfl rfl rfl (by decide +kernel)) (pi_tup (pe_tup (pa_cons (pv 0) (pa_cons (pv 1) (pa_cons (pv 2) pa_nil))))) (blkOk_by (own := [("point", 7)]) (N := N_circle_number) (sc := defScope s_circle_number) (by decide +kernel)) (fun _ _ _ _ _ => pg_name (i := 7) sc_circle_number.nd rfl (Or.inl rfl)) (fun _ _ _ _ _ => pts_nil) (fun _ _ _ _ _ => (C8.pe_c (c_vector T) hr (by decide) rfl (pa_cons (pv 3) (pa_cons (pv 7) pa_nil)))))
        (pss_cons (ps_setLc (i := 5) (own := [("row", 8)]) (g := gName 8) (by rfl) sc_circle_number.nd rfl rfl (sw_true rfl rfl rfl (by decide +kernel)) (pi_list (pv 4)) (blkOk_by (own := [("row", 8)]) (N := N_circle_number) (sc := defScope s_circle_number) (by decide +kernel)) (fun _ _ _ _ _ => pg_name (i := 8) sc_circle_number.nd rfl (Or.inl rfl)) (fun _ _ _ _ _ => pts_nil) (fun _ _ _ _ _ => (C8.pe_c (c_dot T) hr (by decide) rfl (pa_cons (pv 8) (pa_cons (pv 8) pa_nil)))))
        (pss_cons (ps_set (i := 6) sc_circle_number.nd rfl (Or.inl rfl) (pe_op op_mul (pe_ix ix_list (pv 5) pe_int (fun _ _ => rfl)) (C8.pe_c (c_cross T) hr (by decide) rfl (pa_cons (pe_ix ix_list (pv 4) pe_int (fun _ _ => rfl)) (pa_cons (pe_ix ix_list (pv 4) pe_int (fun _ _ => rfl)) pa_nil)))))
        (pss_cons (ps_set (i := 6) sc_circle_number.nd rfl (Or.inl rfl) (pe_op op_sub (pv 6) (pe_op op_mul (pe_ix ix_list (pv 5) pe_int (fun _ _ => rfl)) (C8.pe_c (c_cross T) hr (by decide) rfl (pa_cons (pe_ix ix_list (pv 4) pe_int (fun _ _ => rfl)) (pa_cons (pe_ix ix_list (pv 4) pe_int (fun _ _ => rfl)) pa_nil))))))
        (pss_one (ps_ret (pe_op op_add (pv 6) (pe_op op_mul (pe_ix ix_list (pv 5) pe_int (fun _ _ => rfl)) (C8.pe_c (c_cross T) hr (by decide) rfl (pa_cons (pe_ix ix_list (pv 4) pe_int (fun _ _ => rfl)) (pa_cons (pe_ix ix_list (pv 4) pe_int (fun _ _ => rfl)) pa_nil))))))))))), ?_⟩
    refine ⟨_, rfl, _, rfl, _, rfl, (by show 3 ≤ sizeLine; decide), fun tp ntp => ?_⟩
    (generalize hgen : upd _ _ _ = H1; have m1 := grow_same hgen ntp; have t1 := grow_at hgen; clear hgen)
    have g3 : Paired (SpP H1) [va, vb, vc] [a, b, c] := .cons (m1.sp2 ha) (.cons (m1.sp2 hb) (.cons (m1.sp2 hc) .nil))
    -- rows
    refine ⟨tp, rfl, ⟨_, SqT.of t1⟩, fun D nD => ?_⟩
    refine lc_tup (K := K) (a := tp) (xs := [va, vb, vc]) (fun i Hx => L2.Same H1 Hx ∧ ∃ vs, Hx D = some (.lst vs) ∧ Paired (fun v p => Sp2 Hx v (p.x - d.x) (p.y - d.y)) vs ([a, b, c].take i)) ⟨L2.Same.new nD, [], upd_same, .nil⟩ (fun i Hx _ ⟨z, _⟩ => SqT.of (z _ _ t1)) ?_ ?_
    · rintro i y Hx hy ⟨s1, vs, hD, hvs⟩
      obtain ⟨p, hp, hs⟩ := paired_at g3 hy
      refine ⟨rfl, _, rfl, _, rfl, _, _, _, _, _, _, rfl, (m1.trans s1).sp2 hd, s1.sp2 hs, fun H2 p2 m2 g2 => ?_⟩
      have hD2 := m2 _ _ hD
      have tk : Tk H2 (upd H2 D (.lst (vs ++ [.ref p2]))) := tk_lst hD2
      have tks : ∀ {v x y}, Sp2 H2 v x y → Sp2 (upd H2 D (.lst (vs ++ [.ref p2]))) v x y := fun {v x y} ⟨b, e1, e2⟩ => ⟨b, e1, tk _ _ e2⟩
      have vl := hvs.length
      refine ⟨vs, hD2, ?_, (s1.trans m2).mut nD, vs ++ [.ref p2], upd_same, ?_⟩
      · refine small_line ?_
        rw [vl, List.length_take]
        simp only [List.length_cons, List.length_nil]
        omega
      · rw [take_snoc hp]
        exact Paired.snoc (L2.Paired.mapP hvs fun _ _ z => tks (m2.sp2 z)) (tks g2)
    · rintro Hx ⟨s1, vs, hD, hvs⟩
      obtain ⟨v0, v1, v2, rfl, r0, r1, r2⟩ : ∃ v0 v1 v2, vs = [v0, v1, v2] ∧ Sp2 Hx v0 (a.x - d.x) (a.y - d.y) ∧ Sp2 Hx v1 (b.x - d.x) (b.y - d.y) ∧ Sp2 Hx v2 (c.x - d.x) (c.y - d.y) := by
        cases hvs with
        | cons h0 t => cases t with
          | cons h1 t => cases t with
            | cons h2 t => cases t; exact ⟨_, _, _, rfl, h0, h1, h2⟩
      have ba := pin_big pd pa
      have bb := pin_big pd pb
      have bc := pin_big pd pc
      -- squares
      refine ⟨_, rfl, D, rfl, ⟨_, SqL.of hD⟩, fun D2 nD2 => ?_⟩
      refine lc_list (K := K) (a := D) (xs := [v0, v1, v2]) (fun i Hy => L2.Same Hx Hy ∧ Hy D2 = some (.lst (([Kh375.dot d a d a, Kh375.dot d b d b, Kh375.dot d c d c].take i).map V.int))) ⟨L2.Same.new nD2, upd_same⟩ (fun i Hy _ ⟨z, _⟩ => SqL.of (z _ _ hD)) ?_ ?_
      · rintro i y Hy hy ⟨s2, hD2⟩
        obtain ⟨x, z, rs, bx, bz, e⟩ : ∃ x z, Sp2 Hx y x z ∧ Big x ∧ Big z ∧ [Kh375.dot d a d a, Kh375.dot d b d b, Kh375.dot d c d c][i]? = some (x * x + z * z) := by
          match i, hy with
          | 0, hy => obtain rfl := Option.some.inj hy; exact ⟨_, _, r0, ba.1, ba.2, rfl⟩
          | 1, hy => obtain rfl := Option.some.inj hy; exact ⟨_, _, r1, bb.1, bb.2, rfl⟩
          | 2, hy => obtain rfl := Option.some.inj hy; exact ⟨_, _, r2, bc.1, bc.2, rfl⟩
        refine ⟨rfl, _, rfl, _, rfl, _, _, _, _, _, _, rfl, s2.sp2 rs, s2.sp2 rs, bx, bz, _, hD2, ?_, s2.mut nD2, ?_⟩
        · refine small_line ?_
          rw [List.length_map, List.length_take]
          simp only [List.length_cons, List.length_nil]
          omega
        · rw [upd_same, take_snoc e, List.map_append]
          rfl
      · rintro Hy ⟨s2, hD2⟩
        have hD2' : Hy D2 = some (.lst [.int (Kh375.dot d a d a), .int (Kh375.dot d b d b), .int (Kh375.dot d c d c)]) := hD2
        have hDy := s2 _ _ hD
        have d0 : atI [V.int (Kh375.dot d a d a), .int (Kh375.dot d b d b), .int (Kh375.dot d c d c)] 0 = some (.int (Kh375.dot d a d a)) := atI_nat (j := 0) rfl
        have d1 : atI [V.int (Kh375.dot d a d a), .int (Kh375.dot d b d b), .int (Kh375.dot d c d c)] 1 = some (.int (Kh375.dot d b d b)) := atI_nat (j := 1) rfl
        have d2 : atI [V.int (Kh375.dot d a d a), .int (Kh375.dot d b d b), .int (Kh375.dot d c d c)] 2 = some (.int (Kh375.dot d c d c)) := atI_nat (j := 2) rfl
        have w0 : atI [v0, v1, v2] 0 = some v0 := atI_nat (j := 0) rfl
        have w1 : atI [v0, v1, v2] 1 = some v1 := atI_nat (j := 1) rfl
        have w2 : atI [v0, v1, v2] 2 = some v2 := atI_nat (j := 2) rfl
        refine ⟨_, rfl, D2, _, _, _, rfl, rfl, SqL.of hD2', d0, _, rfl, D, _, _, _, rfl, rfl, SqL.of hDy, w1, _, rfl, D, _, _, _, rfl, rfl, SqL.of hDy, w2, _, _, _, _, _, _, rfl, s2.sp2 r1, s2.sp2 r2, bb.1, bb.2, _, _, rfl, rfl, (big_dot pd pa).mul, ?_⟩
        refine ⟨_, rfl, _, rfl, D2, _, _, _, rfl, rfl, SqL.of hD2', d1, _, rfl, D, _, _, _, rfl, rfl, SqL.of hDy, w0, _, rfl, D, _, _, _, rfl, rfl, SqL.of hDy, w2, _, _, _, _, _, _, rfl, s2.sp2 r0, s2.sp2 r2, ba.1, ba.2, _, _, rfl, rfl, (big_dot pd pb).mul, _, _, rfl, rfl, ?_⟩
        refine ⟨_, rfl, _, rfl, D2, _, _, _, rfl, rfl, SqL.of hD2', d2, _, rfl, D, _, _, _, rfl, rfl, SqL.of hDy, w0, _, rfl, D, _, _, _, rfl, rfl, SqL.of hDy, w1, _, _, _, _, _, _, rfl, s2.sp2 r0, s2.sp2 r1, ba.1, ba.2, _, _, rfl, rfl, (big_dot pd pc).mul, _, _, rfl, rfl, ?_⟩
        exact q Hy ((m1.trans s1).trans s2)
end
end G
set_option Elab.async false
set_option maxRecDepth 100000
set_option maxHeartbeats 4000000
namespace G
open PySem PySem.Spec PyProof.Rows L2
open Kh375 (Fact Rule Point)
theorem spl3 {H : Hp} {l : Addr} {a b c : Point} (h : SpL H l [a, b, c]) : ∃ us v0 v1 v2, H l = some (.lst us) ∧ atI us 0 = some v0 ∧ atI us 1 = some v1 ∧ atI us 2 = some v2 ∧ SpP H v0 a ∧ SpP H v1 b ∧ SpP H v2 c := by
  obtain ⟨us, h1, h2⟩ := h
  cases h2 with
  | cons h0 t => cases t with
    | cons h1' t => cases t with
      | cons h2' t => cases t; exact ⟨_, _, _, _, h1, atI_nat (j := 0) rfl, atI_nat (j := 1) rfl, atI_nat (j := 2) rfl, h0, h1', h2'⟩
theorem spl4 {H : Hp} {l : Addr} {a b c d : Point} (h : SpL H l [a, b, c, d]) : ∃ us v0 v1 v2 v3, H l = some (.lst us) ∧ atI us 0 = some v0 ∧ atI us 1 = some v1 ∧ atI us 2 = some v2 ∧ atI us 3 = some v3 ∧ SpP H v0 a ∧ SpP H v1 b ∧ SpP H v2 c ∧ SpP H v3 d := by
  obtain ⟨us, h1, h2⟩ := h
  cases h2 with
  | cons h0 t => cases t with
    | cons h1' t => cases t with
      | cons h2' t => cases t with
        | cons h3' t => cases t; exact ⟨_, _, _, _, _, h1, atI_nat (j := 0) rfl, atI_nat (j := 1) rfl, atI_nat (j := 2) rfl, atI_nat (j := 3) rfl, h0, h1', h2', h3'⟩
section
variable {P : Program} {w : World} {K : PySem.W.Frag} {mg : Str → Option Value} {base : Heap} {A : Ad}
/-! holds: slots 0 fact, 1 places, 2 kind, 3 spots, 4 one, 5 point -/
abbrev s_holds : Stmt := topS 28
abbrev N_holds : List Str := ["fact", "places", "kind", "spots", "one", "point"]
theorem sc_holds : FnScope N_holds ["fact", "places"] (defScope s_holds) := C8.fnScope_by (by decide +kernel)
def sp_holds : Sp := fun vs H Q _ => ∃ (vf : V) (l : Addr) (f : Fact) (n : Nat) (pts : List Point), vs = [vf, .ref l] ∧ Tp H vf f ∧ Mi.Va n f ∧ SpL H l pts ∧ pts.length = n ∧ (∀ p ∈ pts, Mi.Pin p) ∧ ∀ H', L2.Same H H' → Q (.bl (Kh375.holdsInDrawing pts f)) H'
theorem c_holds (T : Txt K mg A) : C8.Cal P w K mg base 3 "holds" sp_holds [] := by
  obtain ⟨f, fd, F, b⟩ := T.d_holds.ex
  refine C8.cal0 F b .nil sc_holds ?_ ?_
  · rintro vs H Q E ⟨vf, l, f, n, pts, rfl, _⟩
    rfl
  · rintro cdv _ outer s H vs Q E hr ⟨_, l, f, n, pts, rfl, ⟨af, rfl, haf⟩, va, hl, hn, hpin, q⟩
    refine ⟨_, (pss_cons (ps_set (i := 2) sc_holds.nd rfl (Or.inl rfl) (pe_ix ix_tup (pv 0) pe_int (fun _ _ => rfl)))
        (pss_cons (ps_setLc (i := 3) (own := [("point", 5)]) (g := gName 5) (by rfl) sc_holds.nd rfl rfl (sw_true rfl rfl rfl (by decide +kernel)) (pi_tup (pe_slice sl_tup (pv 0) (po_some pe_int) po_none)) (blkOk_by (own := [("point", 5)]) (N := N_holds) (sc := defScope s_holds) (by decide +kernel)) (fun _ _ _ _ _ => pg_name (i := 5) sc_holds.nd rfl (Or.inl rfl)) (fun _ _ _ _ _ => pts_nil) (fun _ _ _ _ _ => (pe_ix (ix_listK K rfl) (pv 1) (pv 5) (fun _ _ => rfl))))
        (pss_cons (ps_if (pt_cmpR op_in_seq (pv 2) (pe_tup (pa_cons (C8.pe_gc rfl T.g_PARALLEL) (pa_cons (C8.pe_gc rfl T.g_PERPENDICULAR) (pa_cons (C8.pe_gc rfl T.g_EQUAL) pa_nil)))) rfl) (pss_one (ps_ret (C8.pe_c (c_pair_holds T) hr (by decide) rfl (pa_cons (pv 2) (pa_cons (pv 3) pa_nil))))) pss_nil)
        (pss_cons (ps_if (pt_cmpR op_eq (pv 2) (C8.pe_gc rfl T.g_COLLINEAR) (nomark _)) (pss_one (ps_ret (pe_cmpR op_eq (C8.pe_c (c_area T) hr (by decide) rfl (pa_cons (pe_ix ix_list (pv 3) pe_int (fun _ _ => rfl)) (pa_cons (pe_ix ix_list (pv 3) pe_int (fun _ _ => rfl)) (pa_cons (pe_ix ix_list (pv 3) pe_int (fun _ _ => rfl)) pa_nil)))) pe_int (nomark _)))) pss_nil)
        (pss_cons (ps_if (pt_cmpR op_eq (pv 2) (C8.pe_gc rfl T.g_APART) (nomark _)) (pss_one (ps_ret (pe_cmpR op_ne (C8.pe_c (c_area T) hr (by decide) rfl (pa_cons (pe_ix ix_list (pv 3) pe_int (fun _ _ => rfl)) (pa_cons (pe_ix ix_list (pv 3) pe_int (fun _ _ => rfl)) (pa_cons (pe_ix ix_list (pv 3) pe_int (fun _ _ => rfl)) pa_nil)))) pe_int (nomark _)))) pss_nil)
        (pss_cons (ps_if (pt_cmpR op_eq (pv 2) (C8.pe_gc rfl T.g_CONCYCLIC) (nomark _)) (pss_one (ps_ret (pe_cmpR op_eq (C8.pe_c (c_circle_number T) hr (by decide) rfl (pa_cons (pe_ix ix_list (pv 3) pe_int (fun _ _ => rfl)) (pa_cons (pe_ix ix_list (pv 3) pe_int (fun _ _ => rfl)) (pa_cons (pe_ix ix_list (pv 3) pe_int (fun _ _ => rfl)) (pa_cons (pe_ix ix_list (pv 3) pe_int (fun _ _ => rfl)) pa_nil))))) pe_int (nomark _)))) pss_nil)
        (pss_cons (ps_set (i := 4) sc_holds.nd rfl (Or.inl rfl) (C8.pe_c (c_vector T) hr (by decide) rfl (pa_cons (pe_ix ix_list (pv 3) pe_int (fun _ _ => rfl)) (pa_cons (pe_ix ix_list (pv 3) pe_int (fun _ _ => rfl)) pa_nil))))
        (pss_one (ps_ret (pe_and (pe_cmpR op_eq (pv 2) (C8.pe_gc rfl T.g_MIDPOINT) (nomark _)) (pe_one (pe_cmpR (op_eqD hr.units) (pv 4) (C8.pe_c (c_vector T) hr (by decide) rfl (pa_cons (pe_ix ix_list (pv 3) pe_int (fun _ _ => rfl)) (pa_cons (pe_ix ix_list (pv 3) pe_int (fun _ _ => rfl)) pa_nil))) (nomark _))))))))))))), ?_⟩
    refine ⟨_, rfl, af, _, _, _, rfl, rfl, SqT.of haf, fV_at0 f, ?_⟩
    refine ⟨_, rfl, _, rfl, af, _, rfl, SqT.of haf, cutF_not f, fun c nc => ?_⟩
    rw [cutF]
    (generalize hgen : upd _ _ _ = H1; have m1 := grow_same hgen nc; have t1 := grow_at hgen; clear hgen)
    obtain ⟨us, hus, husp⟩ := m1.spl hl
    have f4 := nf_len4 va.nf
    refine ⟨c, rfl, ⟨_, SqT.of t1⟩, fun D nD => ?_⟩
    refine lc_tup (K := K) (a := c) (xs := f.points.map vN) (fun i Hx => L2.Same H1 Hx ∧ SpL Hx D ((f.points.take i).map fun i => pts.getD i ⟨0, 0⟩)) ⟨L2.Same.new nD, [], upd_same, .nil⟩ (fun i Hx _ ⟨z, _⟩ => SqT.of (z _ _ t1)) ?_ ?_
    · rintro i y Hx hy ⟨s1, vs, hD, hvs⟩
      obtain ⟨j, hj, rfl⟩ := map_get hy
      have jn : j < pts.length := by rw [hn]; exact va.pts j (List.mem_of_getElem? hj)
      obtain ⟨v, hv, hs⟩ := paired_get' husp (List.getElem?_eq_getElem jn)
      have vl := hvs.length
      rw [List.length_map, List.length_take] at vl
      have tk := tk_lst (o := .lst (vs ++ [v])) hD
      have tks : ∀ {v' x y}, Sp2 Hx v' x y → Sp2 (upd Hx D (.lst (vs ++ [v]))) v' x y := fun {v' x y} ⟨b, e1, e2⟩ => ⟨b, e1, tk _ _ e2⟩
      refine ⟨rfl, _, rfl, _, rfl, l, _, _, _, rfl, rfl, SqL.of (s1 _ _ hus), atI_nat hv, vs, hD, small_line (by omega), s1.mut nD, vs ++ [v], upd_same, ?_⟩
      rw [take_snoc hj, List.map_append]
      refine Paired.snoc (L2.Paired.mapP hvs fun _ _ z => tks z) ?_
      have e : pts.getD j ⟨0, 0⟩ = pts[j] := by simp [List.getD_eq_getElem?_getD, jn]
      show SpP _ v (pts.getD j ⟨0, 0⟩)
      rw [e]
      exact tks (s1.sp2 hs)
    · rintro Hx ⟨s1, hD⟩
      rw [List.length_map, List.take_length] at hD
      have S := m1.trans s1
      have pin : ∀ i ∈ f.points, Mi.Pin (pts.getD i ⟨0, 0⟩) := fun i hi => by
        have jn : i < pts.length := by rw [hn]; exact va.pts i hi
        have e : pts.getD i ⟨0, 0⟩ = pts[i] := by simp [List.getD_eq_getElem?_getD, jn]
        rw [e]
        exact hpin _ (List.getElem_mem _)
      refine ⟨_, rfl, (by show 3 ≤ sizeLine; decide), fun tq ntq => ?_⟩
      (generalize hgen : upd _ _ _ = H2; have m2 := grow_same hgen ntq; have t2 := grow_at hgen; clear hgen)
      have q2 := fun H' (m : L2.Same H2 H') => q H' ((S.trans m2).trans m)
      have hD2 := m2.spl hD
      unfold Kh375.holdsInDrawing at q2
      rcases va.nf.cases with ⟨a, b, c, hf, _⟩ | ⟨a, b, c, d, rfl, _⟩ | ⟨a, b, c, rfl, _⟩ | ⟨a, b, c, d, hf, _⟩
      · obtain ⟨k, rfl, hk⟩ : ∃ k, f = ⟨k, [a, b, c]⟩ ∧ (k = 0 ∨ k = 6) := by
          rcases hf with rfl | rfl
          · exact ⟨0, rfl, .inl rfl⟩
          · exact ⟨6, rfl, .inr rfl⟩
        have pa := pin a (by simp)
        have pb := pin b (by simp)
        have pc := pin c (by simp)
        obtain ⟨ws, v0, v1, v2, hw, a0, a1, a2, s0, s1', s2⟩ := spl3 hD2
        rcases hk with rfl | rfl
        · refine ⟨tq, _, rfl, .inr (SqT.of t2), rfl, rfl, _, rfl, iteF ⟨_, rfl, rfl, _, rfl, iteT ?_⟩⟩
          refine ⟨_, rfl, D, _, _, _, rfl, rfl, SqL.of hw, a0, _, rfl, D, _, _, _, rfl, rfl, SqL.of hw, a1, _, rfl, D, _, _, _, rfl, rfl, SqL.of hw, a2, _, _, _, _, _, _, rfl, s0, s1', s2, pa, pb, pc, fun H3 m3 => ⟨rfl, ?_⟩⟩
          rw [dec_int]
          exact q2 H3 m3
        · refine ⟨tq, _, rfl, .inr (SqT.of t2), rfl, rfl, _, rfl, iteF ⟨_, rfl, rfl, _, rfl, iteF ⟨_, rfl, rfl, _, rfl, iteT ?_⟩⟩⟩
          refine ⟨_, rfl, D, _, _, _, rfl, rfl, SqL.of hw, a0, _, rfl, D, _, _, _, rfl, rfl, SqL.of hw, a1, _, rfl, D, _, _, _, rfl, rfl, SqL.of hw, a2, _, _, _, _, _, _, rfl, s0, s1', s2, pa, pb, pc, fun H3 m3 => ⟨rfl, ?_⟩⟩
          rw [dec_int]
          exact q2 H3 m3
      · have pa := pin a (by simp)
        have pb := pin b (by simp)
        have pc := pin c (by simp)
        have pd := pin d (by simp)
        obtain ⟨ws, v0, v1, v2, v3, hw, a0, a1, a2, a3, s0, s1', s2, s3⟩ := spl4 hD2
        refine ⟨tq, _, rfl, .inr (SqT.of t2), rfl, rfl, _, rfl, iteF ⟨_, rfl, rfl, _, rfl, iteF ⟨_, rfl, rfl, _, rfl, iteF ⟨_, rfl, rfl, _, rfl, iteT ?_⟩⟩⟩⟩
        refine ⟨_, rfl, D, _, _, _, rfl, rfl, SqL.of hw, a0, _, rfl, D, _, _, _, rfl, rfl, SqL.of hw, a1, _, rfl, D, _, _, _, rfl, rfl, SqL.of hw, a2, _, rfl, D, _, _, _, rfl, rfl, SqL.of hw, a3, _, _, _, _, _, _, _, _, rfl, s0, s1', s2, s3, pa, pb, pc, pd, fun H3 m3 => ⟨rfl, ?_⟩⟩
        rw [dec_int, Mi.circle_is]
        exact q2 H3 m3
      · have pa := pin a (by simp)
        have pb := pin b (by simp)
        have pc := pin c (by simp)
        obtain ⟨ws, v0, v1, v2, hw, a0, a1, a2, s0, s1', s2⟩ := spl3 hD2
        refine ⟨tq, _, rfl, .inr (SqT.of t2), rfl, rfl, _, rfl, iteF ⟨_, rfl, rfl, _, rfl, iteF ⟨_, rfl, rfl, _, rfl, iteF ⟨_, rfl, rfl, _, rfl, iteF ?_⟩⟩⟩⟩
        refine ⟨_, rfl, D, _, _, _, rfl, rfl, SqL.of hw, a1, _, rfl, D, _, _, _, rfl, rfl, SqL.of hw, a0, _, _, _, _, _, _, rfl, s1', s0, fun H3 p3 m3 g3 => ?_⟩
        refine ⟨_, rfl, rfl, _, rfl, iteT ?_⟩
        have hw3 := m3 _ _ hw
        refine ⟨_, rfl, _, rfl, D, _, _, _, rfl, rfl, SqL.of hw3, a0, _, rfl, D, _, _, _, rfl, rfl, SqL.of hw3, a2, _, _, _, _, _, _, rfl, m3.sp2 s0, m3.sp2 s2, fun H4 p4 m4 g4 => ?_⟩
        obtain ⟨_, e3, g3'⟩ := m4.sp2 g3
        cases e3
        obtain ⟨_, e4, g4'⟩ := g4
        cases e4
        refine ⟨_, _, dp_dT (ns := [_, _]) (SqT.of g3'), dp_dT (ns := [_, _]) (SqT.of g4'), shaped_dT _, shaped_dT _, ?_⟩
        rw [eqv_dT]
        have z := q2 H4 (m3.trans m4)
        refine cast ?_ z
        congr 2
        show (2 * _ == _ + _ && 2 * _ == _ + _) = _
        rw [← Mi.mid_is, ← Mi.mid_is, Bool.eq_iff_iff, Bool.and_eq_true, decide_eq_true_eq, decide_eq_true_eq, decide_eq_true_eq]
        simp
      · obtain ⟨k, rfl, hk⟩ : ∃ k, f = ⟨k, [a, b, c, d]⟩ ∧ (k = 1 ∨ k = 2 ∨ k = 3) := by
          rcases hf with rfl | rfl | rfl
          · exact ⟨1, rfl, .inl rfl⟩
          · exact ⟨2, rfl, .inr (.inl rfl)⟩
          · exact ⟨3, rfl, .inr (.inr rfl)⟩
        have pa := pin a (by simp)
        have pb := pin b (by simp)
        have pc := pin c (by simp)
        have pd := pin d (by simp)
        have hin : inV (vN k) [V.int 1, V.int 2, V.int 3] = true := by
          rcases hk with rfl | rfl | rfl <;> rfl
        refine ⟨tq, _, rfl, .inr (SqT.of t2), rfl, rfl, _, rfl, ?_⟩
        refine ite2 (fun _ => ?_) fun h => absurd hin h
        exact ⟨_, rfl, _, rfl, k, D, _, _, _, _, rfl, hD2, hk, pa, pb, pc, pd, fun H3 m3 => q2 H3 m3⟩
end
end G
set_option Elab.async false
set_option maxRecDepth 100000
set_option maxHeartbeats 4000000
namespace G
open PySem PySem.Spec PyProof.Rows L2
open Kh375 (Fact Rule Point)
theorem li_at {r : List Int} {j : Nat} (h : j < r.length) : atI (r.map V.int) (j : Int) = some (.int (r.getD j 0)) := by
  refine atI_nat ?_
  rw [List.getElem?_map, List.getElem?_eq_getElem h]
  simp [List.getD_eq_getElem?_getD, h]
theorem spl_keys {H : Hp} : ∀ {us : List V} {pts : List Point}, Paired (SpP H) us pts → ∃ ks : List (Addr × List Int), us = ks.map (fun p => V.ref p.1) ∧ ks.map (·.2) = pts.map (fun p => [p.x, p.y]) ∧ ∀ p ∈ ks, H p.1 = some (.tup (p.2.map V.int))
  | _, _, .nil => ⟨[], rfl, rfl, by simp⟩
  | _, _, .cons (b := pt) h t => by
    obtain ⟨a, rfl, ha⟩ := h
    obtain ⟨ks, rfl, e2, e3⟩ := spl_keys t
    refine ⟨(a, [pt.x, pt.y]) :: ks, rfl, by rw [List.map_cons, List.map_cons, e2], fun p hp => ?_⟩
    rcases List.mem_cons.mp hp with rfl | hp
    · exact ha
    · exact e3 p hp
theorem pts_nd {pts : List Point} : (pts.map fun p => [p.x, p.y]).Nodup ↔ pts.Nodup := by
  constructor
  · intro h
    rw [List.nodup_iff_pairwise_ne, List.pairwise_map] at h
    exact h.imp fun h e => h (by rw [e])
  · intro h
    rw [List.nodup_iff_pairwise_ne, List.pairwise_map]
    refine List.Pairwise.imp (fun {p q} h e => h ?_) h
    obtain ⟨x, y⟩ := p
    obtain ⟨x', y'⟩ := q
    simp only [List.cons.injEq, and_true] at e
    rw [e.1, e.2]
section
variable {P : Program} {w : World} {K : PySem.W.Frag} {mg : Str → Option Value} {base : Heap} {A : Ad}
/-! are_coordinates: slots 0 many, 1 row, 2 number -/
abbrev s_are_coordinates : Stmt := topS 20
abbrev N_are_coordinates : List Str := ["many", "row", "number"]
theorem sc_are_coordinates : FnScope N_are_coordinates ["many", "row"] (defScope s_are_coordinates) := C8.fnScope_by (by decide +kernel)
def sp_are_coordinates : Sp := fun vs H Q _ => ∃ (n : Nat) (a : Addr) (r : List Int), vs = [vN n, .ref a] ∧ LI H a r ∧ r.length ≤ 1000 ∧ n ≤ 1000 ∧ ∀ H', L2.Same H H' → Q (.bl (decide (r.length = 2 * n) && r.all Kh375.isCoordinate)) H'
theorem c_are_coordinates (T : Txt K mg A) : C8.Cal P w K mg base 1 "are_coordinates" sp_are_coordinates [] := by
  obtain ⟨f, fd, F, b⟩ := T.d_are_coordinates.ex
  refine C8.cal0 F b .nil sc_are_coordinates ?_ ?_
  · rintro vs H Q E ⟨n, a, r, rfl, _⟩
    rfl
  · rintro cdv _ outer s H vs Q E hr ⟨n, a, r, rfl, ha, hlen, hn, q⟩
    refine ⟨_, (pss_one (ps_ret (pe_and (pe_cmpR op_eq (pe_callB call_len_seq rfl T.n_len PySem.boot_len (pa_cons (pv 1) pa_nil)) (pe_op op_mul pe_int (pv 0)) (nomark _)) (pe_one (pe_callB (cr_all rfl) rfl T.n_all (by decide +kernel) (pa_cons (pe_lc (own := [("number", 2)]) (g := gName 2) (by rfl) sc_are_coordinates.nd (pi_list (pv 1)) (blkOk_by (own := [("number", 2)]) (N := N_are_coordinates) (sc := defScope s_are_coordinates) (by decide +kernel)) (fun _ _ _ _ _ => pg_name (i := 2) sc_are_coordinates.nd rfl (Or.inl rfl)) (fun _ _ _ _ _ => pts_nil) (fun _ _ _ _ _ => (pe_chain op_le op_le (pe_un un_neg (C8.pe_gc rfl T.g_MOST_COORDINATE)) (pv 2) (C8.pe_gc rfl T.g_MOST_COORDINATE)))) pa_nil)))))), ?_⟩
    refine ⟨_, rfl, a, _, rfl, .inl (SqL.of ha), _, rfl, _, _, rfl, rfl, .inl ⟨by decide, by decide⟩, rfl, _, rfl, ?_⟩
    have e1 : decide (V.int ((r.map V.int).length : Int) = V.int (2 * (n : Int))) = decide (r.length = 2 * n) := by
      rw [List.length_map, Bool.eq_iff_iff, decide_eq_true_eq, decide_eq_true_eq]
      constructor
      · intro h; have := V.int.inj h; omega
      · intro h; congr 1; omega
    rw [e1]
    refine ite2 (fun h => ?_) fun h => ?_
    · refine ⟨_, rfl, a, rfl, ⟨_, SqL.of ha⟩, fun D nD => ?_⟩
      refine lc_list (K := K) (a := a) (xs := r.map V.int) (fun i Hx => L2.Same H Hx ∧ Hx D = some (.lst (((r.take i).map Kh375.isCoordinate).map V.bl))) ⟨L2.Same.new nD, upd_same⟩ (fun i Hx _ ⟨z, _⟩ => SqL.of (z _ _ ha)) ?_ ?_
      · rintro i y Hx hy ⟨s1, hD⟩
        obtain ⟨x, hx, rfl⟩ := map_get hy
        have il : (r.take i).length ≤ r.length := List.length_take_le' _ _
        have fin : ∀ v, v = V.bl (Kh375.isCoordinate x) → ∃ acc, Hx D = some (.lst acc) ∧ acc.length < sizeLine ∧ L2.Same H (upd Hx D (.lst (acc ++ [v]))) ∧ upd Hx D (.lst (acc ++ [v])) D = some (.lst (((r.take (i + 1)).map Kh375.isCoordinate).map V.bl)) := by
          rintro v rfl
          refine ⟨_, hD, small_line ?_, s1.mut nD, ?_⟩
          · rw [List.length_map, List.length_map]
            omega
          · rw [upd_same, take_snoc hx]
            simp
        refine ⟨rfl, _, rfl, _, rfl, _, _, rfl, rfl, _, rfl, ite2 (fun h2 => ?_) fun h2 => ?_⟩
        · refine ⟨_, _, rfl, rfl, fin _ ?_⟩
          have := of_decide_eq_true h2
          unfold Kh375.isCoordinate
          dsimp only
          rw [decide_eq_true (show -1000 ≤ x from this), Bool.true_and]
        · refine fin _ ?_
          have : ¬ -1000 ≤ x := fun z => h2 (decide_eq_true z)
          unfold Kh375.isCoordinate
          rw [decide_eq_false this]
          rfl
      · rintro Hx ⟨s1, hD⟩
        rw [List.length_map, List.take_length] at hD
        refine ⟨D, _, rfl, SqL.of hD, ?_⟩
        have z := q Hx s1
        rw [h, Bool.true_and] at z
        rw [List.all_map]
        exact z
    · have z := q H fun _ _ z => z
      rw [Bool.eq_false_iff.mpr h] at z
      exact z
/-! spots_of: slots 0 row, 1 at -/
abbrev s_spots_of : Stmt := topS 21
abbrev N_spots_of : List Str := ["row", "at"]
theorem sc_spots_of : FnScope N_spots_of ["row"] (defScope s_spots_of) := C8.fnScope_by (by decide +kernel)
def sp_spots_of : Sp := fun vs H Q _ => ∃ (n : Nat) (a : Addr) (r : List Int), vs = [.ref a] ∧ LI H a r ∧ r.length = 2 * n ∧ n ≤ 1000 ∧ ∀ H' p, L2.Same H H' → SpL H' p (Kh375.drawingOf r) → Q (.ref p) H'
theorem c_spots_of (T : Txt K mg A) : C8.Cal P w K mg base 1 "spots_of" sp_spots_of [] := by
  obtain ⟨f, fd, F, b⟩ := T.d_spots_of.ex
  refine C8.cal0 F b .nil sc_spots_of ?_ ?_
  · rintro vs H Q E ⟨n, a, r, rfl, _⟩
    rfl
  · rintro cdv _ outer s H vs Q E hr ⟨n, a, r, rfl, ha, hlen, hn, q⟩
    obtain ⟨dl, da⟩ := Mi.drawing_at n hlen
    refine ⟨_, (pss_one (ps_ret (pe_lc (own := [("at", 1)]) (g := gName 1) (by rfl) sc_spots_of.nd (pi_range3 rfl T.n_range (pa_cons pe_int (pa_cons (pe_callB call_len_seq rfl T.n_len PySem.boot_len (pa_cons (pv 0) pa_nil)) (pa_cons pe_int pa_nil)))) (blkOk_by (own := [("at", 1)]) (N := N_spots_of) (sc := defScope s_spots_of) (by decide +kernel)) (fun _ _ _ _ _ => pg_name (i := 1) sc_spots_of.nd rfl (Or.inl rfl)) (fun _ _ _ _ _ => pts_nil) (fun _ _ _ _ _ => (pe_tup (pa_cons (pe_ix (ix_listK K rfl) (pv 0) (pv 1) (fun _ _ => rfl)) (pa_cons (pe_ix (ix_listK K rfl) (pv 0) (pe_op op_add (pv 1) pe_int) (fun _ _ => rfl)) pa_nil))))))), ?_⟩
    refine ⟨_, rfl, a, _, rfl, .inl (SqL.of ha), 0, _, 2, n, rfl, by rw [List.length_map, hlen]; exact rg2 hn, fun D nD => ?_⟩
    refine lc_it (walk_rangeC (lo := 0) (c := 2) (n := n)) (fun i Hx => L2.Same H Hx ∧ SpL Hx D ((Kh375.drawingOf r).take i)) ⟨L2.Same.new nD, [], upd_same, .nil⟩ (fun _ _ _ _ => trivial) ?_ ?_
    · rintro i x _ Hx hi ⟨s1, vs, hD, hvs⟩ ⟨rfl, rfl⟩
      have ha1 : LI Hx a r := s1 _ _ ha
      have a1 : atI (r.map V.int) (0 + (i : Int) * 2) = some (.int (r.getD (2 * i) 0)) := by
        rw [show (0 + (i : Int) * 2) = ((2 * i : Nat) : Int) by omega]
        exact li_at (by omega)
      have a2 : atI (r.map V.int) (0 + (i : Int) * 2 + 1) = some (.int (r.getD (2 * i + 1) 0)) := by
        rw [show (0 + (i : Int) * 2 + 1) = ((2 * i + 1 : Nat) : Int) by omega]
        exact li_at (by omega)
      refine ⟨rfl, _, rfl, _, rfl, a, _, _, _, rfl, rfl, SqL.of ha1, a1, _, rfl, _, rfl, _, _, rfl, rfl, a, _, _, _, rfl, rfl, SqL.of ha1, a2, (by show 2 ≤ sizeLine; decide), fun p np => ?_⟩
      (generalize hgen : upd _ _ _ = H2; have m2 := grow_same hgen np; have t2 := grow_at hgen; clear hgen)
      have hD2 := m2 _ _ hD
      have vl := hvs.length
      rw [List.length_take] at vl
      have tk := tk_lst (o := .lst (vs ++ [.ref p])) hD2
      have tks : ∀ {v x y}, Sp2 H2 v x y → Sp2 (upd H2 D (.lst (vs ++ [.ref p]))) v x y := fun {v x y} ⟨b, e1, e2⟩ => ⟨b, e1, tk _ _ e2⟩
      refine ⟨vs, hD2, small_line (by omega), (s1.trans m2).mut nD, vs ++ [.ref p], upd_same, ?_⟩
      rw [take_snoc (da i hi)]
      exact Paired.snoc (L2.Paired.mapP hvs fun _ _ z => tks (m2.sp2 z)) (tks ⟨p, rfl, t2⟩)
    · rintro Hx ⟨s1, hD⟩
      rw [← dl, List.take_length] at hD
      exact q Hx D s1 hD
/-! are_distinct: slots 0 spots -/
abbrev s_are_distinct : Stmt := topS 29
abbrev N_are_distinct : List Str := ["spots"]
theorem sc_are_distinct : FnScope N_are_distinct ["spots"] (defScope s_are_distinct) := C8.fnScope_by (by decide +kernel)
def sp_are_distinct : Sp := fun vs H Q _ => ∃ (l : Addr) (pts : List Point), vs = [.ref l] ∧ SpL H l pts ∧ pts.length < 64 ∧ ∀ H', L2.Same H H' → Q (.bl (Kh375.pointsAreDistinct pts)) H'
theorem c_are_distinct (T : Txt K mg A) : C8.Cal P w K mg base 1 "are_distinct" sp_are_distinct [] := by
  obtain ⟨f, fd, F, b⟩ := T.d_are_distinct.ex
  refine C8.cal0 F b .nil sc_are_distinct ?_ ?_
  · rintro vs H Q E ⟨l, pts, rfl, _⟩
    rfl
  · rintro cdv _ outer s H vs Q E hr ⟨l, pts, rfl, ⟨us, hus, hp⟩, hlen, q⟩
    obtain ⟨ks, rfl, e2, e3⟩ := spl_keys hp
    have kl : ks.length = pts.length := by
      have := congrArg List.length e2
      rw [List.length_map, List.length_map] at this
      exact this
    refine ⟨_, (pss_one (ps_ret (pe_cmpR op_eq (pe_callB call_lenT rfl T.n_len PySem.boot_len (pa_cons (pe_callTy (cr_setOfT rfl hr.units) rfl T.n_set boot_set (pa_cons (pv 0) pa_nil)) pa_nil)) (pe_callB call_len_seq rfl T.n_len PySem.boot_len (pa_cons (pv 0) pa_nil)) (nomark _)))), ?_⟩
    refine ⟨_, rfl, l, ks, rfl, SqL.of hus, fun p hpm => SqT.of (e3 p hpm), by omega, fun a L na h1 h2 => ?_⟩
    (generalize hgen : upd _ _ _ = H1; have m1 := grow_same hgen na; have t1 := grow_at hgen; clear hgen)
    refine ⟨a, L, rfl, t1, fun nd => ?_⟩
    refine ⟨_, rfl, l, _, rfl, .inl (SqL.of (m1 _ _ hus)), rfl, ?_⟩
    have sub1 : ∀ x ∈ L.map (·.2), x ∈ ks.map (·.2) := fun x hx => by
      obtain ⟨p, hp, rfl⟩ := List.mem_map.mp hx
      exact List.mem_map.mpr ⟨p, h1 p hp, rfl⟩
    have sub2 : ∀ x ∈ ks.map (·.2), x ∈ L.map (·.2) := fun x hx => by
      obtain ⟨p, hp, rfl⟩ := List.mem_map.mp hx
      exact h2 p hp
    have key : decide (V.int (L.length : Int) = V.int ((ks.map fun p => V.ref p.1).length : Int)) = Kh375.pointsAreDistinct pts := by
      rw [Bool.eq_iff_iff, decide_eq_true_eq, Mi.distinct_iff, ← pts_nd, ← e2, List.length_map]
      constructor
      · intro h
        have hl : L.length = ks.length := by have := V.int.inj h; omega
        exact Mi.nodup_of nd sub1 sub2 (by rw [List.length_map, List.length_map, hl])
      · intro h
        have l1 := Mi.sub_len nd sub1
        have l2 := Mi.sub_len h sub2
        rw [List.length_map, List.length_map] at l1 l2
        congr 1
        omega
    rw [key]
    exact q _ m1
end
end G
set_option Elab.async false
set_option maxRecDepth 100000
set_option maxHeartbeats 4000000
namespace G
open PySem PySem.Spec PyProof.Rows L2
open Kh375 (Fact Rule Point)
theorem draw_pin {n : Nat} {r : List Int} (hl : r.length = 2 * n) (h : r.all Kh375.isCoordinate = true) : (Kh375.drawingOf r).length = n ∧ ∀ p ∈ Kh375.drawingOf r, Mi.Pin p := by
  obtain ⟨dl, da⟩ := Mi.drawing_at n hl
  refine ⟨dl, fun p hp => ?_⟩
  obtain ⟨i, hi⟩ := List.getElem?_of_mem hp
  have il : i < n := by rw [← dl]; exact (List.getElem?_eq_some_iff.mp hi).1
  rw [da i il] at hi
  have hc : ∀ j, j < r.length → -1000 ≤ r.getD j 0 ∧ r.getD j 0 ≤ 1000 := fun j hj => by
    have e : r.getD j 0 = r[j] := by simp [List.getD_eq_getElem?_getD, hj]
    have z := List.all_eq_true.mp h r[j] (List.getElem_mem _)
    unfold Kh375.isCoordinate at z
    rw [Bool.and_eq_true, decide_eq_true_eq, decide_eq_true_eq] at z
    rw [e]
    exact z
  rw [← Option.some.inj hi]
  have h1 := hc (2 * i) (by omega)
  have h2 := hc (2 * i + 1) (by omega)
  exact ⟨h1.1, h1.2, h2.1, h2.2⟩
def okC (nums : List Nat) (rows : List (List Int)) : Prop := nums = [] ∧ ∃ r, rows = [r] ∧ r.length ≤ 14
def okH (nums : List Nat) (rows : List (List Int)) : Prop := nums.length = 1 ∧ ∃ r r2, rows = [r, r2] ∧ (∀ x ∈ r, 0 ≤ x) ∧ r.length ≤ 4 ∧ r2.length ≤ 14
theorem row_at1 {H : Hp} {lr : Addr} {r r2 : List Int} {rs : List (List Int)} (h : RwL H lr (r :: r2 :: rs)) : ∃ us a a2, H lr = some (.lst us) ∧ atI us 0 = some (.ref a) ∧ atI us 1 = some (.ref a2) ∧ LI H a r ∧ LI H a2 r2 := by
  obtain ⟨us, h1, h2⟩ := h
  cases h2 with
  | cons hd tl => cases tl with
    | cons hd2 tl =>
      obtain ⟨a, rfl, ha⟩ := hd
      obtain ⟨a2, rfl, ha2⟩ := hd2
      exact ⟨_, a, a2, h1, atI_nat (j := 0) rfl, atI_nat (j := 1) rfl, ha, ha2⟩
section
variable {P : Program} {w : World} {K : PySem.W.Frag} {mg : Str → Option Value} {base : Heap} {A : Ad}
/-! check_drawing: slots 0 problem, 1 numbers, 2 rows, 3 spots, 4 at, 5 fact -/
abbrev s_check_drawing : Stmt := topS 76
abbrev N_check_drawing : List Str := ["problem", "numbers", "rows", "spots", "at", "fact"]
theorem sc_check_drawing : FnScope N_check_drawing ["problem", "numbers", "rows"] (defScope s_check_drawing) := C8.fnScope_by (by decide +kernel)
theorem c_check_drawing (T : Txt K mg A) : C8.Cal P w K mg base 10 "check_drawing" (sp_deed A (fun _ rows => .checkDrawing (rows.getD 0 [])) okC) [] := by
  obtain ⟨f, fd, F, b⟩ := T.d_check_drawing.ex
  refine C8.cal0 F b .nil sc_check_drawing ?_ ?_
  · rintro vs H Q E ⟨pa, ln, lr, p, nums, rows, H0, rfl, _⟩
    rfl
  · rintro cdv _ outer s H vs Q E hr ⟨pa, ln, lr, ⟨n, hyps⟩, nums, rows, H0, rfl, ⟨dx, lh, u, hp⟩, sm, hn, hrw, ⟨rfl, r, rfl, hr14⟩, q⟩
    change PrIs A H0 H pa n hyps dx lh u at hp
    obtain ⟨us, ar, hus, hat, har⟩ := row_at hrw
    have h7 := hp.n7
    have hq : (Kh375.apply ⟨n, hyps⟩ (.checkDrawing r)) = if (decide (r.length = 2 * n) && r.all Kh375.isCoordinate) = false then (⟨n, hyps⟩, Kh375.single (-22)) else if Kh375.pointsAreDistinct (Kh375.drawingOf r) = false then (⟨n, hyps⟩, Kh375.single (-16)) else (⟨n, hyps⟩, match (hyps.zipIdx).find? fun x => Kh375.holdsInDrawing (Kh375.drawingOf r) x.1 == false with
      | none => Kh375.single 1
      | some x => ⟨0, [(x.2 : Int)]⟩) := rfl
    change ∀ H' l, L2.Same H0 H' → H0 l = none → PrAt A H0 H' pa (Kh375.apply ⟨n, hyps⟩ (.checkDrawing r)).1 → LI H' l (rI (Kh375.apply ⟨n, hyps⟩ (.checkDrawing r)).2) → Q (.ref l) H' at q
    rw [hq] at q
    clear hq
    refine ⟨_, (pss_cons (ps_if (pt_not (pt_val (C8.pe_c (c_are_coordinates T) hr (by decide) rfl (pa_cons (pe_fld (pv 0) rfl) (pa_cons (pe_ix ix_list (pv 2) pe_int (fun _ _ => rfl)) pa_nil))))) (pss_one (ps_ret (pe_lst (pa_cons (pe_un un_neg pe_int) pa_nil)))) pss_nil)
        (pss_cons (ps_set (i := 3) sc_check_drawing.nd rfl (Or.inl rfl) (C8.pe_c (c_spots_of T) hr (by decide) rfl (pa_cons (pe_ix ix_list (pv 2) pe_int (fun _ _ => rfl)) pa_nil)))
        (pss_cons (ps_if (pt_not (pt_val (C8.pe_c (c_are_distinct T) hr (by decide) rfl (pa_cons (pv 3) pa_nil)))) (pss_one (ps_ret (pe_lst (pa_cons (pe_un un_neg pe_int) pa_nil)))) pss_nil)
        (pss_cons (ps_for PassesOwn.never rfl (pi_enum rfl T.n_enumerate (pa_cons (pe_fld (pv 0) rfl) pa_nil)) (pg_tup rfl (pgs_cons (pg_name (i := 4) sc_check_drawing.nd rfl (Or.inl rfl)) (pgs_cons (pg_name (i := 5) sc_check_drawing.nd rfl (Or.inl rfl)) pgs_nil)))
        (pss_one (ps_if (pt_not (pt_val (C8.pe_c (c_holds T) hr (by decide) rfl (pa_cons (pv 5) (pa_cons (pv 3) pa_nil))))) (pss_one (ps_ret (pe_lst (pa_cons pe_int (pa_cons (pv 4) pa_nil))))) pss_nil)))
        (pss_one (ps_ret (pe_lst (pa_cons pe_int pa_nil)))))))), ?_⟩
    refine ⟨_, rfl, pa, A.cp, dx, _, _, rfl, hp.ins, T.k_Problem.cl, T.p_many, rfl, _, rfl, lr, _, _, _, rfl, rfl, SqL.of hus, hat, n, ar, r, rfl, har, by omega, by omega, fun H1 m1 => ⟨_, rfl, ?_⟩⟩
    have S1 := sm.trans m1
    have hp1 := hp.same m1
    cases hd : (decide (r.length = 2 * n) && r.all Kh375.isCoordinate) with
    | false =>
      rw [if_pos hd] at q
      refine iteT ⟨_, rfl, (by show 1 ≤ sizeLine; decide), fun l nl => ?_⟩
      (generalize hgen : upd _ _ _ = H2; have m2 := grow_same hgen nl; have t2 := grow_at hgen; clear hgen)
      exact q H2 l (S1.trans m2) (S1.free nl) (hp1.same m2).at_ t2
    | true =>
      rw [if_neg (by rw [hd]; exact fun z => nomatch z)] at q
      rw [Bool.and_eq_true, decide_eq_true_eq] at hd
      obtain ⟨dl, dp⟩ := draw_pin hd.1 hd.2
      refine iteF ⟨_, rfl, lr, _, _, _, rfl, rfl, SqL.of (m1 _ _ hus), hat, n, ar, r, rfl, m1 _ _ har, hd.1, by omega, fun H2 ps m2 hsp => ?_⟩
      generalize Kh375.drawingOf r = pts at *
      refine ⟨_, rfl, ps, pts, rfl, hsp, by omega, fun H3 m3 => ⟨_, rfl, ?_⟩⟩
      have S3 := (S1.trans m2).trans m3
      have hp3 := (hp1.same m2).same m3
      cases hdi : Kh375.pointsAreDistinct pts with
      | false =>
        rw [if_pos hdi] at q
        refine iteT ⟨_, rfl, (by show 1 ≤ sizeLine; decide), fun l nl => ?_⟩
        (generalize hgen : upd _ _ _ = H4; have m4 := grow_same hgen nl; have t4 := grow_at hgen; clear hgen)
        exact q H4 l (S3.trans m4) (S3.free nl) (hp3.same m4).at_ t4
      | true =>
        rw [if_neg (by rw [hdi]; exact fun z => nomatch z)] at q
        obtain ⟨hv, g1, g2⟩ := hp3.hyp
        have hsp3 := m3.spl hsp
        refine iteF ⟨_, rfl, pa, A.cp, dx, _, _, rfl, hp3.ins, T.k_Problem.cl, T.p_hypotheses, rfl, lh, hv, rfl, SqL.of g1, for_it (walk_enum (K := K) (a := lh) (xs := hv)) (fun i σ Hc => ∃ x4 x5, σ = [some (.ref pa), some (.ref ln), some (.ref lr), some (.ref ps), x4, x5] ∧ L2.Same H3 Hc ∧ ∀ y ∈ hyps.zipIdx.take i, (Kh375.holdsInDrawing pts y.1 == false) = false)
          ⟨none, none, rfl, fun _ _ z => z, by simp⟩ (fun i σ Hc _ ⟨_, _, _, z, _⟩ => SqL.of (z _ _ g1)) ?_ ?_⟩
        · rintro i x σ Hc _ hi ⟨x4, x5, rfl, s4, hno⟩ ⟨Tq, y1, y, rfl, nT, rfl, ey, hy⟩
          obtain rfl := Option.some.inj ey
          obtain ⟨fc, hfc, hfa⟩ := paired_at g2 hy
          have hz : hyps.zipIdx[i]? = some (fc, i) := by
            rw [List.getElem?_zipIdx, hfc]
            simp
          refine ⟨Tq, _, rfl, SqT.of upd_same, rfl, _, _, rfl, _, _, rfl, rfl, ?_⟩
          (generalize hgen : upd _ _ _ = H5; have m5 := grow_same hgen nT; have t5 := grow_at hgen; clear hgen)
          have S5 := s4.trans m5
          refine ⟨_, rfl, _, rfl, y, ps, fc, n, pts, rfl, S5.tp hfa, hp.fl.va fc (List.mem_of_getElem? hfc), S5.spl hsp3, dl, dp, fun H6 m6 => ⟨_, rfl, ?_⟩⟩
          cases hh : Kh375.holdsInDrawing pts fc with
          | false =>
            have hfind : (hyps.zipIdx.find? fun x => Kh375.holdsInDrawing pts x.1 == false) = some (fc, i) := by
              obtain ⟨il, e2⟩ := List.getElem?_eq_some_iff.mp hz
              have key : ∀ l1 l2 : List (Fact × Nat), (∀ d ∈ l1, (Kh375.holdsInDrawing pts d.1 == false) = false) → ((l1 ++ (fc, i) :: l2).find? fun x => Kh375.holdsInDrawing pts x.1 == false) = some (fc, i) := fun l1 l2 hl => by
                rw [List.find?_append, List.find?_eq_none.mpr (fun x hx => by rw [hl x hx]; exact Bool.false_ne_true), Option.none_or, List.find?_cons_of_pos (p := fun x : Fact × Nat => Kh375.holdsInDrawing pts x.1 == false) (by rw [hh]; rfl)]
              have e3 : hyps.zipIdx = hyps.zipIdx.take i ++ (fc, i) :: hyps.zipIdx.drop (i + 1) := by
                rw [← e2, ← List.drop_eq_getElem_cons il, List.take_append_drop]
              have z := key _ (hyps.zipIdx.drop (i + 1)) hno
              rw [← e3] at z
              exact z
            rw [hfind] at q
            refine iteT ⟨_, rfl, (by show 2 ≤ sizeLine; decide), fun l nl => ?_⟩
            (generalize hgen : upd _ _ _ = H7; have m7 := grow_same hgen nl; have t7 := grow_at hgen; clear hgen)
            have S6 := (S3.trans S5).trans m6
            exact q H7 l (S6.trans m7) (S6.free nl) (((hp3.same S5).same m6).same m7).at_ t7
          | true =>
            refine iteF ⟨_, _, rfl, S5.trans m6, fun y hy => ?_⟩
            rw [take_snoc hz, List.mem_append, List.mem_singleton] at hy
            rcases hy with hy | rfl
            · exact hno y hy
            · rw [hh]
              rfl
        · rintro σ Hc ⟨x4, x5, rfl, s4, hno⟩
          have e2 : hv.length = hyps.zipIdx.length := by rw [g2.length, List.length_zipIdx]
          rw [e2, List.take_length] at hno
          have hfind : (hyps.zipIdx.find? fun x => Kh375.holdsInDrawing pts x.1 == false) = none := List.find?_eq_none.mpr fun x hx => by rw [hno x hx]; exact Bool.false_ne_true
          rw [hfind] at q
          refine ⟨(by show 1 ≤ sizeLine; decide), fun l nl => ?_⟩
          (generalize hgen : upd _ _ _ = H7; have m7 := grow_same hgen nl; have t7 := grow_at hgen; clear hgen)
          have S6 := S3.trans s4
          exact q H7 l (S6.trans m7) (S6.free nl) ((hp3.same s4).same m7).at_ t7
/-! holds_in_drawing: slots 0 problem, 1 numbers, 2 rows, 3 fact -/
abbrev s_holds_in_drawing : Stmt := topS 77
abbrev N_holds_in_drawing : List Str := ["problem", "numbers", "rows", "fact"]
theorem sc_holds_in_drawing : FnScope N_holds_in_drawing ["problem", "numbers", "rows"] (defScope s_holds_in_drawing) := C8.fnScope_by (by decide +kernel)
theorem c_holds_in_drawing (T : Txt K mg A) : C8.Cal P w K mg base 4 "holds_in_drawing" (sp_deed A (fun nums rows => .holdsInDrawing (num0 nums) (rowN rows 0) (rows.getD 1 [])) okH) [] := by
  obtain ⟨f, fd, F, b⟩ := T.d_holds_in_drawing.ex
  refine C8.cal0 F b .nil sc_holds_in_drawing ?_ ?_
  · rintro vs H Q E ⟨pa, ln, lr, p, nums, rows, H0, rfl, _⟩
    rfl
  · rintro cdv _ outer s H vs Q E hr ⟨pa, ln, lr, ⟨n, hyps⟩, nums, rows, H0, rfl, ⟨dx, lh, u, hp⟩, sm, hn, hrw, ⟨ok1, r, r2, rfl, hr0, hr4, hr14⟩, q⟩
    change PrIs A H0 H pa n hyps dx lh u at hp
    obtain ⟨us, ar, ar2, hus, hat, hat2, har, har2⟩ := row_at1 hrw
    have h7 := hp.n7
    have har' : LN H ar (r.map Int.toNat) := by
      show H ar = _
      rw [har, nn_row hr0]
    have hq : (Kh375.apply ⟨n, hyps⟩ (.holdsInDrawing (num0 nums) (r.map Int.toNat) r2)) = (match Kh375.parseFact ⟨n, hyps⟩ (num0 nums) (r.map Int.toNat) with
      | none => (⟨n, hyps⟩, Kh375.single (-22))
      | some f => if (decide (r2.length = 2 * n) && r2.all Kh375.isCoordinate) = false then (⟨n, hyps⟩, Kh375.single (-22)) else (⟨n, hyps⟩, Kh375.single (if Kh375.holdsInDrawing (Kh375.drawingOf r2) f then 1 else 0))) := rfl
    change ∀ H' l, L2.Same H0 H' → H0 l = none → PrAt A H0 H' pa (Kh375.apply ⟨n, hyps⟩ (.holdsInDrawing (num0 nums) (r.map Int.toNat) r2)).1 → LI H' l (rI (Kh375.apply ⟨n, hyps⟩ (.holdsInDrawing (num0 nums) (r.map Int.toNat) r2)).2) → Q (.ref l) H' at q
    rw [hq] at q
    clear hq
    refine ⟨_, (pss_cons (ps_set (i := 3) sc_holds_in_drawing.nd rfl (Or.inl rfl) (C8.pe_c (c_fact_of T) hr (by decide) rfl (pa_cons (pv 0) (pa_cons (pe_ix ix_list (pv 1) pe_int (fun _ _ => rfl)) (pa_cons (pe_ix ix_list (pv 2) pe_int (fun _ _ => rfl)) pa_nil)))))
        (pss_cons (ps_if (PW.pt (pw_or (pt_cmpR op_isN (pv 3) pe_non (nomark _)) (pw_or1 (pt_not (pt_val (C8.pe_c (c_are_coordinates T) hr (by decide) rfl (pa_cons (pe_fld (pv 0) rfl) (pa_cons (pe_ix ix_list (pv 2) pe_int (fun _ _ => rfl)) pa_nil)))))))) (pss_one (ps_ret (pe_lst (pa_cons (pe_un un_neg pe_int) pa_nil)))) pss_nil)
        (pss_one (ps_ret (pe_lst (pa_cons (pe_ifExp (pt_val (C8.pe_c (c_holds T) hr (by decide) rfl (pa_cons (pv 3) (pa_cons (C8.pe_c (c_spots_of T) hr (by decide) rfl (pa_cons (pe_ix ix_list (pv 2) pe_int (fun _ _ => rfl)) pa_nil)) pa_nil)))) pe_int pe_int) pa_nil)))))), ?_⟩
    refine ⟨_, rfl, _, rfl, ln, _, _, _, rfl, rfl, SqL.of hn, num_at ok1, _, rfl, lr, _, _, _, rfl, rfl, SqL.of hus, hat, pa, ar, num0 nums, n, _, hyps, dx, lh, u, H0, rfl, hp, har', (by rw [List.length_map]; omega), fun H1 x m1 hx => ?_⟩
    have S1 := sm.trans m1
    have hp1 := hp.same m1
    refine ⟨_, rfl, rfl, _, rfl, ?_⟩
    cases e : Kh375.parseFact ⟨n, hyps⟩ (num0 nums) (r.map Int.toNat) with
    | none =>
      rw [e] at hx q
      cases hx
      refine iteT (iteT ⟨_, rfl, (by show 1 ≤ sizeLine; decide), fun l nl => ?_⟩)
      (generalize hgen : upd _ _ _ = H2; have m2 := grow_same hgen nl; have t2 := grow_at hgen; clear hgen)
      exact q H2 l (S1.trans m2) (S1.free nl) (hp1.same m2).at_ t2
    | some g =>
      rw [e] at hx q
      obtain ⟨⟨ag, rfl, hag⟩, vg⟩ := hx
      dsimp only at q
      refine iteF ⟨_, rfl, pa, A.cp, dx, _, _, rfl, hp1.ins, T.k_Problem.cl, T.p_many, rfl, _, rfl, lr, _, _, _, rfl, rfl, SqL.of (m1 _ _ hus), hat2, n, ar2, r2, rfl, m1 _ _ har2, by omega, by omega, fun H2 m2 => ⟨_, rfl, ?_⟩⟩
      have S2 := S1.trans m2
      have hp2 := hp1.same m2
      cases hd : (decide (r2.length = 2 * n) && r2.all Kh375.isCoordinate) with
      | false =>
        rw [if_pos hd] at q
        refine iteT ⟨_, rfl, (by show 1 ≤ sizeLine; decide), fun l nl => ?_⟩
        (generalize hgen : upd _ _ _ = H3; have m3 := grow_same hgen nl; have t3 := grow_at hgen; clear hgen)
        exact q H3 l (S2.trans m3) (S2.free nl) (hp2.same m3).at_ t3
      | true =>
        rw [if_neg (by rw [hd]; exact fun z => nomatch z)] at q
        rw [Bool.and_eq_true, decide_eq_true_eq] at hd
        obtain ⟨dl, dp⟩ := draw_pin hd.1 hd.2
        refine iteF ⟨_, rfl, _, rfl, lr, _, _, _, rfl, rfl, SqL.of (m2 _ _ (m1 _ _ hus)), hat2, n, ar2, r2, rfl, m2 _ _ (m1 _ _ har2), hd.1, by omega, fun H3 ps m3 hsp => ?_⟩
        refine ⟨_, ps, g, n, _, rfl, ⟨ag, rfl, (m2.trans m3) _ _ hag⟩, vg, hsp, dl, dp, fun H4 m4 => ⟨_, rfl, ?_⟩⟩
        have S4 := (S2.trans m3).trans m4
        have hp4 := (hp2.same m3).same m4
        cases hh : Kh375.holdsInDrawing (Kh375.drawingOf r2) g with
        | false =>
          rw [hh] at q
          refine iteF ⟨(by show 1 ≤ sizeLine; decide), fun l nl => ?_⟩
          (generalize hgen : upd _ _ _ = H5; have m5 := grow_same hgen nl; have t5 := grow_at hgen; clear hgen)
          exact q H5 l (S4.trans m5) (S4.free nl) (hp4.same m5).at_ t5
        | true =>
          rw [hh] at q
          refine iteT ⟨(by show 1 ≤ sizeLine; decide), fun l nl => ?_⟩
          (generalize hgen : upd _ _ _ = H5; have m5 := grow_same hgen nl; have t5 := grow_at hgen; clear hgen)
          exact q H5 l (S4.trans m5) (S4.free nl) (hp4.same m5).at_ t5
end
end G
/-! calls as they are asked. -/
namespace Mi
open Kh375
theorem con1 (k : Int) (l : List Int) : l.contains k = true ↔ k ∈ l := by rw [List.contains_iff_mem]
theorem isList_of {n : Nat} {l : List Int} (h : Kh375Neutral.isList n l = true) : l.length ≤ n ∧ ∀ x ∈ l, 0 ≤ x := by
  unfold Kh375Neutral.isList at h
  rw [Bool.and_eq_true, decide_eq_true_eq, List.all_eq_true] at h
  refine ⟨h.1, fun x hx => ?_⟩
  have z := h.2 x hx
  unfold Kh375Neutral.isParam at z
  rw [Bool.and_eq_true, decide_eq_true_eq] at z
  exact z.1
theorem isSigned_of {n : Nat} {l : List Int} (h : Kh375Neutral.isSignedList n l = true) : l.length ≤ n := by
  unfold Kh375Neutral.isSignedList at h
  rw [Bool.and_eq_true, decide_eq_true_eq] at h
  exact h.1
theorem asked_cases {k : Int} {nums : List Int} {rows : List (List Int)} (h : Kh375Neutral.asked1 ((k :: nums) :: rows) = true) :
    (∃ a, nums = [a] ∧ rows = [] ∧ 0 ≤ a ∧ (k = 0 ∨ k = 2 ∨ k = 4 ∨ k = 6)) ∨
    (∃ a l, nums = [a] ∧ rows = [l] ∧ 0 ≤ a ∧ (k = 1 ∨ k = 8 ∨ k = 9 ∨ k = 10 ∨ k = 11) ∧ l.length ≤ 4 ∧ ∀ x ∈ l, 0 ≤ x) ∨
    (nums = [] ∧ rows = [] ∧ (k = 3 ∨ k = 5 ∨ k = 7 ∨ k = 13)) ∨
    (∃ l, nums = [] ∧ rows = [l] ∧ ((k = 12 ∧ l.length ≤ 200 ∧ ∀ x ∈ l, 0 ≤ x) ∨ (k = 14 ∧ l.length ≤ 14))) ∨
    (∃ a l m, nums = [a] ∧ rows = [l, m] ∧ 0 ≤ a ∧ k = 15 ∧ l.length ≤ 4 ∧ (∀ x ∈ l, 0 ≤ x) ∧ m.length ≤ 14) := by
  have par : ∀ a, Kh375Neutral.isParam a = true → 0 ≤ a := fun a z => by
    unfold Kh375Neutral.isParam at z
    rw [Bool.and_eq_true, decide_eq_true_eq] at z
    exact z.1
  match nums, rows with
  | [a], [] =>
    left
    simp only [Kh375Neutral.asked1, Bool.and_eq_true, con1, List.mem_cons, List.not_mem_nil, or_false] at h
    exact ⟨a, rfl, rfl, par a h.2, h.1⟩
  | [a], [l] =>
    right; left
    simp only [Kh375Neutral.asked1, Bool.and_eq_true, con1, List.mem_cons, List.not_mem_nil, or_false] at h
    exact ⟨a, l, rfl, rfl, par a h.1.2, h.1.1, isList_of h.2⟩
  | [], [] =>
    right; right; left
    simp only [Kh375Neutral.asked1, con1, List.mem_cons, List.not_mem_nil, or_false] at h
    exact ⟨rfl, rfl, h⟩
  | [], [l] =>
    right; right; right; left
    simp only [Kh375Neutral.asked1, Bool.or_eq_true, Bool.and_eq_true, con1, List.mem_singleton] at h
    refine ⟨l, rfl, rfl, ?_⟩
    rcases h with h | h
    · exact .inl ⟨h.1, isList_of h.2⟩
    · exact .inr ⟨h.1, isSigned_of h.2⟩
  | [a], [l, m] =>
    right; right; right; right
    simp only [Kh375Neutral.asked1, Bool.and_eq_true, con1, List.mem_singleton] at h
    exact ⟨a, l, m, rfl, rfl, par a h.1.1.2, h.1.1.1, (isList_of h.1.2).1, (isList_of h.1.2).2, isSigned_of h.2⟩
  | [_], _ :: _ :: _ :: _ => simp [Kh375Neutral.asked1] at h
  | [], _ :: _ :: _ => simp [Kh375Neutral.asked1] at h
  | _ :: _ :: _, _ => simp [Kh375Neutral.asked1] at h
end Mi
set_option Elab.async false
set_option maxRecDepth 100000
set_option maxHeartbeats 4000000
namespace G
open PySem PySem.Spec PyProof.Rows L2
open Kh375 (Fact Rule Point)
def OpPr (A : Ad) (H0 H : Hp) (v : V) (o : Option Kh375.Problem) : Prop := match o with
  | none => v = .non
  | some p => ∃ pa, v = .ref pa ∧ PrAt A H0 H pa p
theorem exec_some {p : Kh375.Problem} {c : Kh375.Call} (h : ∀ n, c ≠ .create n) : Kh375.execute (some p) c = (some (Kh375.apply p c).1, (Kh375.apply p c).2) := by
  cases c <;> first | rfl | exact absurd rfl (h _)
theorem exec_none {c : Kh375.Call} (h : ∀ n, c ≠ .create n) : Kh375.execute none c = (none, Kh375.single (-61)) := by
  cases c <;> first | rfl | exact absurd rfl (h _)
theorem to_LN {H : Hp} {a : Addr} {x : Int} (h : LI H a [x]) (hx : 0 ≤ x) : LN H a [x.toNat] := by
  show H a = _
  rw [h]
  show _ = some (HO.lst [V.int ((x.toNat : Nat) : Int)])
  rw [Int.toNat_of_nonneg hx]
  rfl
section
variable {P : Program} {w : World} {K : PySem.W.Frag} {mg : Str → Option Value} {base : Heap} {A : Ad}
/-! answer: slots 0 problem, 1 call, 2 numbers, 3 rows, 4 deed -/
abbrev s_answer : Stmt := topS 83
abbrev N_answer : List Str := ["problem", "call", "numbers", "rows", "deed"]
theorem sc_answer : FnScope N_answer ["problem", "call", "numbers", "rows"] (defScope s_answer) := C8.fnScope_by (by decide +kernel)
def sp_answer (A : Ad) : Sp := fun vs H Q _ => ∃ (v : V) (ln lr : Addr) (k : Int) (nums : List Int) (rows : List (List Int)) (o : Option Kh375.Problem) (H0 : Hp), vs = [v, .int k, .ref ln, .ref lr] ∧ OpPr A H0 H v o ∧ L2.Same H0 H ∧ LI H ln nums ∧ RwL H lr rows ∧ Kh375Neutral.asked1 ((k :: nums) :: rows) = true ∧ k ≠ 0 ∧
  ∀ H' l, L2.Same H0 H' → H0 l = none → OpPr A H0 H' v (Kh375.execute o (Kh375Neutral.decodeCall ((k :: nums) :: rows))).1 → LI H' l (rI (Kh375.execute o (Kh375Neutral.decodeCall ((k :: nums) :: rows))).2) → Q (.ref l) H'
theorem c_answer (T : Txt K mg A) : C8.Cal P w K mg base 11 "answer" (sp_answer A) [] := by
  obtain ⟨f, fd, F, b⟩ := T.d_answer.ex
  refine C8.cal0 F b .nil sc_answer ?_ ?_
  · rintro vs H Q E ⟨v, ln, lr, k, nums, rows, o, H0, rfl, _⟩
    rfl
  · rintro cdv A0 outer s H vs Q E hr ⟨v, ln, lr, k, nums, rows, o, H0, rfl, ho, sm, hn, hrw, hask, hk0, q⟩
    generalize ec : Kh375Neutral.decodeCall ((k :: nums) :: rows) = c at *
    have go : ∀ {x : Str} {lv : Nat} {cl : List Nat → List (List Int) → Kh375.Call} {ok : List Nat → List (List Int) → Prop} (cal : C8.Cal P w K mg base lv x (sp_deed A cl ok) []) (hk2 : lv ≤ 10) {j : Nat} (hj : k = ((j + 1 : Nat) : Int)) (hx : deedNames[j]? = some x) {nn : List Nat} (hln : LN H ln nn) (hok : ok nn rows) (hcall : c = cl nn rows) (hne : ∀ n, cl nn rows ≠ .create n),
        ∃ t, PSs (cxOf C8.CX0 P w K mg base N_answer "answer" (C8.fnScope (topS 83)) f cdv A0 outer s H E).nox (C8.fnBody (topS 83)) t ∧ t { nx := fun _ H' => Q .non H', rt := Q } (L2.start N_answer [v, .int k, .ref ln, .ref lr]) H := by
      intro x lv cl ok cal hk2 j hj hx nn hln hok hcall hne
      obtain ⟨f2, fd2, ps2, ds2, F2, hm2, kp2, hb2, hd2⟩ := cal.ex
      obtain ⟨fs, hfs, hfp⟩ := T.deeds
      obtain ⟨f3, hf3, hm3⟩ := paired_get' hfp hx
      have e32 : f3 = f2 := by
        have z := hm3.symm.trans hm2
        exact Value.ref.inj (Option.some.inj z)
      subst e32
      have hat : atI (.non :: fs.map V.ref) k = some (.ref f3) := by
        rw [hj]
        refine atI_nat ?_
        rw [List.getElem?_cons_succ, List.getElem?_map, hf3]
        rfl
      refine ⟨_, (pss_cons (ps_if (pt_cmpR op_isN (pv 0) pe_non (nomark _)) (pss_one (ps_ret (pe_lst (pa_cons (pe_un un_neg pe_int) pa_nil)))) pss_nil)
        (pss_cons (ps_set (i := 4) sc_answer.nd rfl (Or.inl rfl) (pe_ix ix_tup (C8.pe_gc rfl T.g_DEEDS) (pv 1) (fun _ _ => rfl)))
        (pss_one (ps_ret (pe_callL (i := 4) (E := C8.E0) F2 (hr.mono hk2) rfl (Or.inl rfl) kp2 hb2 hd2 C8.pass0 (pa_cons (pv 0) (pa_cons (pv 2) (pa_cons (pv 3) pa_nil)))))))), ?_⟩
      rw [hcall] at q
      cases o with
      | none =>
        cases ho
        rw [exec_none hne] at q
        refine ⟨_, rfl, rfl, _, rfl, iteT ⟨_, rfl, (by show 1 ≤ sizeLine; decide), fun l nl => ?_⟩⟩
        (generalize hgen : upd _ _ _ = H1; have m1 := grow_same hgen nl; have t1 := grow_at hgen; clear hgen)
        exact q H1 l (sm.trans m1) (sm.free nl) rfl t1
      | some p =>
        obtain ⟨pa, rfl, hp⟩ := ho
        rw [exec_some hne] at q
        refine ⟨_, rfl, rfl, _, rfl, iteF ⟨_, rfl, A.deeds, _, _, _, rfl, rfl, hfs H, hat, ?_⟩⟩
        refine ⟨rfl, _, rfl, _, rfl, _, rfl, pa, ln, lr, p, nn, rows, H0, rfl, hp, sm, hln, hrw, hok, fun H' l s1 n1 p1 l1 => q H' l s1 n1 ⟨pa, rfl, p1⟩ l1⟩
    rcases Mi.asked_cases hask with ⟨a, rfl, rfl, ha, h | h | h | h⟩ | ⟨a, l, rfl, rfl, ha, h, hl4, hl0⟩ | ⟨rfl, rfl, h | h | h | h⟩ | ⟨l, rfl, rfl, ⟨h, hl2, hl0⟩ | ⟨h, hl2⟩⟩ | ⟨a, l, m, rfl, rfl, ha, h, hl4, hl0, hm⟩
    · exact absurd h hk0
    · subst h; exact go (c_remove_hypothesis T) (by decide) (j := 1) rfl rfl (to_LN hn ha) ⟨rfl, rfl⟩ ec.symm (fun n z => nomatch z)
    · subst h; exact go (c_get_hypothesis T) (by decide) (j := 3) rfl rfl (to_LN hn ha) ⟨rfl, rfl⟩ ec.symm (fun n z => nomatch z)
    · subst h; exact go (c_list_known T) (by decide) (j := 5) rfl rfl (to_LN hn ha) ⟨rfl, rfl⟩ ec.symm (fun n z => nomatch z)
    · have okf : okF [a.toNat] [l] := ⟨rfl, l, rfl, hl0, hl4⟩
      rcases h with h | h | h | h | h
      · subst h; exact go (c_add_hypothesis T) (by decide) (j := 0) rfl rfl (to_LN hn ha) okf ec.symm (fun n z => nomatch z)
      · subst h; exact go (c_round_of T) (by decide) (j := 7) rfl rfl (to_LN hn ha) okf ec.symm (fun n z => nomatch z)
      · subst h; exact go (c_reason T) (by decide) (j := 8) rfl rfl (to_LN hn ha) okf ec.symm (fun n z => nomatch z)
      · subst h; exact go (c_proof T) (by decide) (j := 9) rfl rfl (to_LN hn ha) okf ec.symm (fun n z => nomatch z)
      · subst h; exact go (c_needed_hypotheses T) (by decide) (j := 10) rfl rfl (to_LN hn ha) okf ec.symm (fun n z => nomatch z)
    · subst h; exact go (c_hypothesis_count T) (by decide) (j := 2) (nn := []) rfl rfl hn ⟨rfl, rfl⟩ ec.symm (fun n z => nomatch z)
    · subst h; exact go (c_known_count T) (by decide) (j := 4) (nn := []) rfl rfl hn ⟨rfl, rfl⟩ ec.symm (fun n z => nomatch z)
    · subst h; exact go (c_round_count T) (by decide) (j := 6) (nn := []) rfl rfl hn ⟨rfl, rfl⟩ ec.symm (fun n z => nomatch z)
    · subst h; exact go (c_contradiction T) (by decide) (j := 12) (nn := []) rfl rfl hn ⟨rfl, rfl⟩ ec.symm (fun n z => nomatch z)
    · subst h; exact go (c_check_proof T) (by decide) (j := 11) (nn := []) rfl rfl hn ⟨rfl, l, rfl, hl0, hl2⟩ ec.symm (fun n z => nomatch z)
    · subst h; exact go (c_check_drawing T) (by decide) (j := 13) (nn := []) rfl rfl hn ⟨rfl, l, rfl, hl2⟩ ec.symm (fun n z => nomatch z)
    · subst h; exact go (c_holds_in_drawing T) (by decide) (j := 14) rfl rfl (to_LN hn ha) ⟨rfl, l, m, rfl, hl0, hl4, hm⟩ ec.symm (fun n z => nomatch z)
end
end G
/-! the calls as one list of whole numbers. -/
namespace Mi
open Kh375
def numsA : List Nat := [1, 1, 1, 0, 1, 0, 1, 0, 1, 1, 1, 1, 0, 0, 0, 1]
def rowsA : List Nat := [0, 1, 0, 0, 0, 0, 0, 0, 1, 1, 1, 1, 1, 0, 1, 2]
theorem shape_at {p : Int} {n k : Nat} (h : PyKh375.shape p = some (n, k)) : ∃ j : Nat, p = (j : Int) ∧ j < 16 ∧ numsA.getD j 0 = n ∧ rowsA.getD j 0 = k := by
  have hp : 0 ≤ p ∧ p < 16 := by
    refine Classical.byContradiction fun c => ?_
    unfold PyKh375.shape at h
    rw [if_neg (by omega), if_neg (by omega), if_neg (by omega), if_neg (by omega), if_neg (by omega), if_neg (by omega), if_neg (by omega), if_neg (by omega), if_neg (by omega), if_neg (by omega), if_neg (by omega), if_neg (by omega), if_neg (by omega), if_neg (by omega), if_neg (by omega), if_neg (by omega)] at h
    cases h
  have all : ∀ j : Fin 16, PyKh375.shape (j.val : Int) = some (numsA.getD j.val 0, rowsA.getD j.val 0) := by decide
  obtain ⟨j, rfl⟩ := Int.eq_ofNat_of_zero_le hp.1
  have hj : j < 16 := by omega
  have z := all ⟨j, hj⟩
  rw [h] at z
  have z := Option.some.inj z
  injection z with z1 z2
  exact ⟨j, rfl, hj, z1.symm, z2.symm⟩
theorem whole_id (c : List (List Int)) : PyKh375.whole c = c := by
  unfold PyKh375.whole
  split <;> rfl
theorem rows_succ {k : Nat} {l t : List Int} {xs : List (List Int)} (h : PyFlat.rows (k + 1) l = some (xs, t)) :
    ∃ n r xs', l = n :: r ∧ 0 ≤ n ∧ n.toNat ≤ r.length ∧ PyFlat.rows k (r.drop n.toNat) = some (xs', t) ∧ xs = r.take n.toNat :: xs' := by
  unfold PyFlat.rows at h
  match l with
  | [] => simp [PyFlat.row] at h
  | n :: r =>
    unfold PyFlat.row at h
    dsimp only at h
    by_cases c : 0 ≤ n ∧ n.toNat ≤ r.length
    · rw [if_pos c] at h
      dsimp only at h
      cases e : PyFlat.rows k (r.drop n.toNat) with
      | none => rw [e] at h; cases h
      | some q =>
        obtain ⟨ys, t'⟩ := q
        rw [e] at h
        have z := Option.some.inj h
        injection z with z1 z2
        exact ⟨n, r, ys, rfl, c.1, c.2, by rw [← z2]; exact e, z1.symm⟩
    · rw [if_neg c] at h
      cases h
theorem call_is {l t : List Int} {c : List (List Int)} (h : PyFlat.call PyKh375.shape l = some (c, t)) :
    ∃ p r n k xs, l = p :: r ∧ PyKh375.shape p = some (n, k) ∧ n ≤ r.length ∧ PyFlat.rows k (r.drop n) = some (xs, t) ∧ c = (p :: r.take n) :: xs := by
  match l with
  | [] => cases h
  | p :: r =>
    unfold PyFlat.call at h
    dsimp only at h
    cases e : PyKh375.shape p with
    | none => rw [e] at h; cases h
    | some q =>
      obtain ⟨n, k⟩ := q
      rw [e] at h
      dsimp only at h
      by_cases c1 : r.length < n
      · rw [if_pos c1] at h; cases h
      · rw [if_neg c1] at h
        cases e2 : PyFlat.rows k (r.drop n) with
        | none => rw [e2] at h; cases h
        | some q2 =>
          obtain ⟨xs, t'⟩ := q2
          rw [e2] at h
          have z := Option.some.inj h
          injection z with z1 z2
          exact ⟨p, r, n, k, xs, rfl, e, by omega, by rw [← z2]; exact e2, z1.symm⟩
theorem calls_is {f : Nat} {p : Int} {r : List Int} {cs : List (List (List Int))} (h : PyFlat.calls PyKh375.shape f (p :: r) = some cs) :
    ∃ f' c t cs', PyFlat.call PyKh375.shape (p :: r) = some (c, t) ∧ PyFlat.calls PyKh375.shape f' t = some cs' ∧ cs = c :: cs' := by
  match f with
  | 0 => cases h
  | f + 1 =>
    unfold PyFlat.calls at h
    cases e : PyFlat.call PyKh375.shape (p :: r) with
    | none => rw [e] at h; cases h
    | some q =>
      obtain ⟨c, t⟩ := q
      rw [e] at h
      dsimp only at h
      cases e2 : PyFlat.calls PyKh375.shape f t with
      | none => rw [e2] at h; cases h
      | some cs' =>
        rw [e2] at h
        exact ⟨f, c, t, cs', rfl, e2, (Option.some.inj h).symm⟩
theorem calls_nil {f : Nat} {cs : List (List (List Int))} (h : PyFlat.calls PyKh375.shape f [] = some cs) : cs = [] := by
  cases f <;> exact (Option.some.inj h).symm
theorem asked_is {l : List Int} (h : PyKh375.answers_asked l = true) : ∃ cs, PyFlat.calls PyKh375.shape l.length l = some cs ∧ (∀ c ∈ cs, Kh375Neutral.asked1 c = true) ∧ PyKh375.answers l = PyFlat.told (PyFlat.played Kh375Neutral.step Kh375Neutral.start cs) ∧ (PyKh375.answers l).length ≤ 10000000 := by
  unfold PyKh375.answers_asked at h
  cases e : PyFlat.calls PyKh375.shape l.length l with
  | none => rw [e] at h; cases h
  | some raw =>
    rw [e] at h
    dsimp only at h
    simp only [Bool.and_eq_true] at h
    have hm : raw.map PyKh375.whole = raw := (List.map_congr_left fun c _ => whole_id c).trans (List.map_id _)
    rw [hm] at h
    refine ⟨raw, rfl, ?_, ?_, ?_⟩
    · have z := h.1.2
      unfold Kh375Neutral.asked at z
      rw [Bool.and_eq_true, List.all_eq_true] at z
      exact z.2
    · unfold PyKh375.answers PyKh375.calls
      rw [e]
      dsimp only
      rw [hm]
    · exact of_decide_eq_true h.2
end Mi
set_option Elab.async false
set_option maxRecDepth 100000
set_option maxHeartbeats 4000000
namespace G
open PySem PySem.Spec PyProof.Rows L2
open Kh375 (Fact Rule Point)
theorem PrIs.rebase {A : Ad} {H0 H1 H : Hp} {pa : Addr} {n : Nat} {hyps : List Fact} {dx lh : Addr} {u : V} (h : PrIs A H0 H pa n hyps dx lh u) (e : ∀ b, H0 b = none → H1 b = none) : PrIs A H1 H pa n hyps dx lh u :=
  { h with fpa := e _ h.fpa, flh := e _ h.flh, th := h.th.imp id fun ⟨t, e1, e2⟩ => ⟨t, e1, e2.base fun a _ z => e a z⟩ }
theorem PrIs.keep {A : Ad} {H0 H : Hp} {pa : Addr} {n : Nat} {hyps : List Fact} {dx lh x : Addr} {u : V} {xs : List V} {o : HO} (h : PrIs A H0 H pa n hyps dx lh u) (hx : H x = some (.lst xs)) (h0 : H0 x ≠ none) : PrIs A H0 (upd H x o) pa n hyps dx lh u :=
  { h with ins := (upd_ne (ne_kind h.ins hx fun z => nomatch z)).trans h.ins, hyp := ls_upd h.hyp hx (fun _ z => nomatch z) (fun e => h0 (by rw [← e]; exact h.flh)), th := h.th.imp id fun ⟨t, e1, e2⟩ => ⟨t, e1, by
      obtain ⟨a, b, c, d, e, L, h⟩ := e2
      exact ⟨a, b, c, d, e, L, h.keep hx (fun _ z => nomatch z) h0⟩⟩ }
theorem OpPr.rebase {A : Ad} {H0 H1 H : Hp} {v : V} {o : Option Kh375.Problem} (h : OpPr A H0 H v o) (e : ∀ b, H0 b = none → H1 b = none) : OpPr A H1 H v o := by
  cases o with
  | none => exact h
  | some p =>
    obtain ⟨pa, rfl, dx, lh, u, h⟩ := h
    exact ⟨pa, rfl, dx, lh, u, h.rebase e⟩
theorem OpPr.keep {A : Ad} {H0 H : Hp} {v : V} {o : Option Kh375.Problem} {x : Addr} {xs : List V} {u : HO} (h : OpPr A H0 H v o) (hx : H x = some (.lst xs)) (h0 : H0 x ≠ none) : OpPr A H0 (upd H x u) v o := by
  cases o with
  | none => exact h
  | some p =>
    obtain ⟨pa, rfl, dx, lh, w, h⟩ := h
    exact ⟨pa, rfl, dx, lh, w, h.keep hx h0⟩
theorem OpPr.same {A : Ad} {H0 H H' : Hp} {v : V} {o : Option Kh375.Problem} (h : OpPr A H0 H v o) (e : L2.Same H H') : OpPr A H0 H' v o := by
  cases o with
  | none => exact h
  | some p =>
    obtain ⟨pa, rfl, dx, lh, w, h⟩ := h
    exact ⟨pa, rfl, dx, lh, w, h.same e⟩
/-- rows that are none of the list itself -/
def RwB (H : Hp) (lr : Addr) (rows : List (List Int)) : Prop := ∃ us, H lr = some (.lst us) ∧ Paired (fun v r => ∃ a, v = V.ref a ∧ a ≠ lr ∧ LI H a r) us rows
theorem RwB.rwl {H : Hp} {lr : Addr} {rows : List (List Int)} (h : RwB H lr rows) : RwL H lr rows := by
  obtain ⟨us, h1, h2⟩ := h
  exact ⟨us, h1, L2.Paired.mapP h2 fun _ _ ⟨a, e1, _, e2⟩ => ⟨a, e1, e2⟩⟩
section
variable {P : Program} {w : World} {K : PySem.W.Frag} {mg : Str → Option Value} {base : Heap} {A : Ad}
/-! answers: slots 0 calls, 1 problem, 2 found, 3 at, 4 call, 5 end, 6 numbers, 7 rows, 8 turn, 9 told -/
abbrev s_answers : Stmt := topS 84
abbrev N_answers : List Str := ["calls", "problem", "found", "at", "call", "end", "numbers", "rows", "turn", "told"]
theorem sc_answers : FnScope N_answers ["calls"] (defScope s_answers) := C8.fnScope_by (by decide +kernel)
def sp_answers (K : PySem.W.Frag) : Sp := fun vs H Q _ => ∃ (lc : Addr) (l : List Int), vs = [.ref lc] ∧ SqL K H lc (l.map V.int) ∧ l.length ≤ 100000 ∧ PyKh375.answers_asked l = true ∧
  ∀ H' p, L2.Same H H' → H' p = some (.lst ((PyKh375.answers l).map V.int)) → Q (.ref p) H'
theorem ok_answers (T : Txt K mg A) {f : Addr} {fd : FuncData} (F : C8.Def K mg "answers" (topS 84) f fd) : FnOk P w K mg base C8.CX0 12 f fd ["calls"] (sp_answers K) := by
  refine C8.fn0 F.fn sc_answers ?_ ?_
  · rintro vs H Q E ⟨lc, l, rfl, _⟩
    rfl
  · rintro cdv _ outer s H vs Q E hr ⟨lc, l, rfl, hlc, hlen, hask, q⟩
    obtain ⟨cs0, hcs0, hok0, hans, hshort⟩ := Mi.asked_is hask
    generalize PyKh375.answers l = ans at *
    refine ⟨_, (pss_cons (ps_set (i := 1) sc_answers.nd rfl (Or.inl rfl) pe_non)
        (pss_cons (ps_set (i := 2) sc_answers.nd rfl (Or.inl rfl) (pe_lst pa_nil))
        (pss_cons (ps_set (i := 3) sc_answers.nd rfl (Or.inl rfl) pe_int)
        (pss_cons (ps_while PassesOwn.never (pt_cmpR op_lt (pv 3) (pe_callB call_len_seq rfl T.n_len PySem.boot_len (pa_cons (pv 0) pa_nil)) (nomark _)) (pss_cons (ps_set (i := 4) sc_answers.nd rfl (Or.inl rfl) (pe_ix ix_list (pv 0) (pv 3) (fun _ _ => rfl)))
        (pss_cons (ps_set (i := 5) sc_answers.nd rfl (Or.inl rfl) (pe_op op_add (pe_op op_add (pv 3) pe_int) (pe_ix ix_tup (C8.pe_gc rfl T.g_NUMBERS) (pv 4) (fun _ _ => rfl))))
        (pss_cons (ps_set (i := 6) sc_answers.nd rfl (Or.inl rfl) (pe_slice sl_list (pv 0) (po_some (pe_op op_add (pv 3) pe_int)) (po_some (pv 5))))
        (pss_cons (ps_set (i := 7) sc_answers.nd rfl (Or.inl rfl) (pe_lst pa_nil))
        (pss_cons (ps_for PassesOwn.never rfl (pi_range1 rfl T.n_range (pa_cons (pe_ix ix_tup (C8.pe_gc rfl T.g_ROWS) (pv 4) (fun _ _ => rfl)) pa_nil)) (pg_name (i := 8) sc_answers.nd rfl (Or.inl rfl))
        (pss_cons (ps_expr (pe_bm PySem.F.plainAttrs_list PySem.F.slot_list_append PySem.F.type_list_append mt_append (pv 7) (pa_cons (pe_slice sl_list (pv 0) (po_some (pe_op op_add (pv 5) pe_int)) (po_some (pe_op op_add (pe_op op_add (pv 5) pe_int) (pe_ix ix_list (pv 0) (pv 5) (fun _ _ => rfl))))) pa_nil)))
        (pss_one (ps_set (i := 5) sc_answers.nd rfl (Or.inl rfl) (pe_op op_add (pe_op op_add (pv 5) pe_int) (pe_ix ix_list (pv 0) (pv 5) (fun _ _ => rfl)))))))
        (pss_cons (ps_set (i := 3) sc_answers.nd rfl (Or.inl rfl) (pv 5))
        (C8.pss_cut (ps_if (pt_cmpR op_ne (pv 4) (C8.pe_gc rfl T.g_CREATE) (nomark _)) (pss_one (ps_set (i := 9) sc_answers.nd rfl (Or.inl rfl) (C8.pe_c (c_answer T) hr (by decide) rfl (pa_cons (pv 1) (pa_cons (pv 4) (pa_cons (pv 6) (pa_cons (pv 7) pa_nil))))))) (pss_one (ps_if (pt_chain op_le op_le pe_int (pe_ix ix_list (pv 6) pe_int (fun _ _ => rfl)) pe_int) (pss_cons (ps_set (i := 1) sc_answers.nd rfl (Or.inl rfl) (C8.pe_mk (c_Problem T) hr (by decide) rfl (pa_cons (pe_ix ix_list (pv 6) pe_int (fun _ _ => rfl)) pa_nil)))
        (pss_one (ps_set (i := 9) sc_answers.nd rfl (Or.inl rfl) (pe_lst (pa_cons pe_int pa_nil))))) (pss_one (ps_set (i := 9) sc_answers.nd rfl (Or.inl rfl) (pe_lst (pa_cons (pe_un un_neg pe_int) pa_nil)))))))
        (pss_cons (ps_expr (pe_bm PySem.F.plainAttrs_list PySem.F.slot_list_append PySem.F.type_list_append mt_append (pv 2) (pa_cons (pe_callB call_len_seq rfl T.n_len PySem.boot_len (pa_cons (pv 9) pa_nil)) pa_nil)))
        (pss_one (ps_expr (pe_bm PySem.F.plainAttrs_list PySem.F.slot_list_extend PySem.F.type_list_extend mt_extend (pv 2) (pa_cons (pv 9) pa_nil)))))))))))))
        (pss_one (ps_ret (pv 2))))))), ?_⟩
    refine ⟨Nat.zero_le _, fun lf nlf => ?_⟩
    obtain ⟨B, eB⟩ : ∃ B, B = upd H lf (.lst []) := ⟨_, rfl⟩
    rw [← eB]
    have mB : L2.Same H B := by rw [eB]; exact L2.Same.new nlf
    have tB : B lf = some (.lst []) := by rw [eB]; exact upd_same
    have hB : ∀ b, b ≠ lf → B b = H b := fun b hb => by rw [eB]; exact upd_ne hb
    clear eB
    refine ⟨fun m σ Hc => ∃ (at_ : Nat) (v : V) (o : Option Kh375.Problem) (acc : List Int) (cs : List (List (List Int))) (fuel : Nat) (x4 x5 x6 x7 x8 x9 : Option V), σ = [some (.ref lc), some v, some (.ref lf), some (vN at_), x4, x5, x6, x7, x8, x9] ∧ m = l.length - at_ ∧ at_ ≤ l.length ∧ L2.Same H Hc ∧ LI Hc lf acc ∧ OpPr A B Hc v o ∧
        PyFlat.calls PyKh375.shape fuel (l.drop at_) = some cs ∧ (∀ c ∈ cs, Kh375Neutral.asked1 c = true) ∧ acc ++ PyFlat.told (PyFlat.played Kh375Neutral.step o cs) = ans,
      ⟨_, 0, .non, none, [], cs0, l.length, none, none, none, none, none, none, rfl, rfl, Nat.zero_le _, mB, tB, rfl, hcs0, hok0, by rw [hans]; rfl⟩, ?_⟩
    rintro m σ Hc ⟨at_, v, o, acc, cs, fuel, x4, x5, x6, x7, x8, x9, rfl, rfl, hat, sm, hlf, hop, hcs, hok, hacc⟩
    have hlcc : SqL K Hc lc (l.map V.int) := sm.seq hlc
    have hml : (l.map V.int).length = l.length := List.length_map ..
    refine ⟨_, rfl, _, rfl, lc, _, rfl, .inl hlcc, _, _, rfl, rfl, _, rfl, ite2 (fun h => ?_) fun h => ?_⟩
    · have hlt : at_ < l.length := by
        have z := of_decide_eq_true h
        rw [hml] at z
        omega
      obtain ⟨p, r, hpr⟩ : ∃ p r, l.drop at_ = p :: r := ⟨_, _, List.drop_eq_getElem_cons hlt⟩
      have hr' : r = l.drop (at_ + 1) := by
        rw [← List.drop_drop, hpr]
        rfl
      have hp0 : l.getD at_ 0 = p := by
        have z := List.drop_eq_getElem_cons hlt
        rw [hpr] at z
        injection z with z1 _
        rw [List.getD_eq_getElem?_getD, List.getElem?_eq_getElem hlt, z1]
        rfl
      rw [hpr] at hcs
      obtain ⟨fuel', c, t, cs', hcall, hcs', rfl⟩ := Mi.calls_is hcs
      obtain ⟨p', r', n, k, xs, e1, hsh, hnr, hrows, rfl⟩ := Mi.call_is hcall
      injection e1 with e1 e2
      subst e1 e2
      obtain ⟨j, rfl, hj, hn, hk⟩ := Mi.shape_at hsh
      have a0 : atI (l.map V.int) (at_ : Int) = some (vN j) := by
        rw [li_at hlt, hp0]
      have hrl : r.length = l.length - (at_ + 1) := by rw [hr', List.length_drop]
      refine ⟨fun σ' H' => ∃ m', m' < l.length - at_ ∧ _, fun σ' H' z => z, ?_⟩
      -- call, end, numbers
      refine ⟨_, rfl, _, rfl, lc, _, _, _, rfl, rfl, hlcc, a0, ?_⟩
      refine ⟨_, rfl, _, _, rfl, rfl, _, rfl, A.numbers, _, _, _, rfl, rfl, T.numbers Hc, at_nat (ns := Mi.numsA) (by exact hj), _, _, rfl, rfl, ?_⟩
      rw [hn]
      have ee : ((at_ : Int) + 1 + (n : Int)) = ((at_ + 1 + n : Nat) : Int) := by omega
      dsimp only
      rw [ee]
      refine ⟨_, rfl, _, rfl, _, _, rfl, rfl, _, rfl, _, rfl, _, rfl, lc, _, rfl, hlcc, fun ln nln => ?_⟩
      rw [show ((at_ : Int) + 1) = ((at_ + 1 : Nat) : Int) by omega, cut_mid _ _ (by omega), Nat.add_sub_cancel_left, ← List.map_drop, ← List.map_take, ← hr']
      (generalize hgen : upd _ _ _ = H1; have m1 := grow_same hgen nln; have t1 := grow_at hgen; clear hgen)
      refine ⟨Nat.zero_le _, fun lr nlr => ?_⟩
      (generalize hgen : upd _ _ _ = H2; have m2 := grow_same hgen nlr; have t2 := grow_at hgen; clear hgen)
      have S2 := m1.trans m2
      refine ⟨_, rfl, A.rows, _, _, _, rfl, rfl, T.rows H2, at_nat (ns := Mi.rowsA) (by exact hj), ?_⟩
      rw [hk]
      have hstart : PyFlat.rows k (l.drop (at_ + 1 + n)) = some (xs, t) := by
        rw [← List.drop_drop, ← hr']
        exact hrows
      have hkl : k ≤ 2 := by
        rw [← hk]
        have all : ∀ q : Fin 16, Mi.rowsA.getD q.val 0 ≤ 2 := by decide
        exact all ⟨j, hj⟩
      refine ⟨k, rfl, by omega, by omega, for_range (lo := 0) (n := k) (fun i σ H3 => ∃ (e : Nat) (xs1 xs2 : List (List Int)) (x8 : Option V), σ = [some (.ref lc), some v, some (.ref lf), some (vN at_), some (vN j), some (vN e), some (.ref ln), some (.ref lr), x8, x9] ∧ L2.Same H1 H3 ∧ at_ < e ∧ e ≤ l.length ∧ xs = xs1 ++ xs2 ∧ xs1.length = i ∧ RwB H3 lr xs1 ∧ PyFlat.rows (k - i) (l.drop e) = some (xs2, t))
        ⟨at_ + 1 + n, [], xs, x8, rfl, m2, by omega, by omega, rfl, rfl, ⟨[], t2, .nil⟩, hstart⟩ ?_ ?_⟩
      · rintro i σ H3 hi ⟨e, xs1, xs2, x8, rfl, s3, hate, hel, hxs, hx1, ⟨us, hlr, hus⟩, hrw⟩
        have S3 := m1.trans s3
        have hlc3 : SqL K H3 lc (l.map V.int) := (sm.trans S3).seq hlc
        rw [show k - i = (k - i - 1) + 1 by omega] at hrw
        obtain ⟨nn, r2, xs', hd, hn0, hnl, hrw', rfl⟩ := Mi.rows_succ hrw
        have helt : e < l.length := by
          by_cases c : e < l.length
          · exact c
          · rw [List.drop_eq_nil_of_le (by omega)] at hd
            cases hd
        have hz := List.drop_eq_getElem_cons helt
        rw [hd] at hz
        injection hz with z1 z2
        have hge : l.getD e 0 = nn := by
          rw [List.getD_eq_getElem?_getD, List.getElem?_eq_getElem helt, z1]
          rfl
        obtain ⟨q2, rfl⟩ := Int.eq_ofNat_of_zero_le hn0
        rw [Int.toNat_natCast] at hnl hrw'
        have ae : atI (l.map V.int) (e : Int) = some (vN q2) := by rw [li_at helt, hge]
        have r2l : r2.length = l.length - (e + 1) := by rw [z2, List.length_drop]
        refine ⟨_, rfl, .inl ⟨rfl, _, SqL.of hlr⟩, _, rfl, _, rfl, _, _, rfl, rfl, _, rfl, _, rfl, _, _, rfl, rfl, _, rfl, _, rfl, lc, _, _, _, rfl, rfl, hlc3, ae, _, _, rfl, rfl, _, rfl, lc, _, rfl, hlc3, fun a na => ?_⟩
        rw [show ((e : Int) + 1) = ((e + 1 : Nat) : Int) by omega, show (((e + 1 : Nat) : Int) + (q2 : Int)) = ((e + 1 + q2 : Nat) : Int) by omega, cut_mid _ _ (by omega), Nat.add_sub_cancel_left, ← List.map_drop, ← List.map_take, ← z2]
        (generalize hgen : upd _ _ _ = H4; have m4 := grow_same hgen na; have t4 := grow_at hgen; clear hgen)
        have hlr4 := m4 _ _ hlr
        have ul := hus.length
        have tk := tk_lst (o := .lst (us ++ [.ref a])) hlr4
        have alr : a ≠ lr := fun z => by rw [z, hlr] at na; cases na
        refine ⟨lr, us, _, rfl, rfl, hlr4, small_line (by omega), ?_⟩
        have s5 : L2.Same H1 (upd H4 lr (.lst (us ++ [.ref a]))) := (s3.trans m4).mut nlr
        have hlc5 : SqL K (upd H4 lr (.lst (us ++ [.ref a]))) lc (l.map V.int) := ((sm.trans m1).trans s5).seq hlc
        refine ⟨_, rfl, _, _, rfl, rfl, _, rfl, _, rfl, lc, _, _, _, rfl, rfl, hlc5, ae, _, _, rfl, rfl, ?_⟩
        refine ⟨e + 1 + q2, xs1 ++ [r2.take q2], xs', some (.int (0 + (i : Int))), ?_, s5, by omega, by omega, by rw [List.append_assoc]; exact hxs, by rw [List.length_append, hx1]; rfl, ⟨us ++ [.ref a], upd_same, Paired.snoc ?_ ⟨a, rfl, alr, keep t4 alr⟩⟩, ?_⟩
        · dsimp only
          rw [show ((e : Int) + 1 + (q2 : Int)) = ((e + 1 + q2 : Nat) : Int) by omega]
          rfl
        · exact L2.Paired.mapP hus fun _ _ ⟨a', e1, e2, e3⟩ => ⟨a', e1, e2, keep (m4 _ _ e3) e2⟩
        · rw [← List.drop_drop, ← z2]
          exact hrw'
      · rintro σ H3 ⟨e, xs1, xs2, x8, rfl, s3, hate, hel, hxs, hx1, hrwl, hrw⟩
        rw [Nat.sub_self] at hrw
        have hrw2 := Option.some.inj hrw
        injection hrw2 with w1 w2
        rw [← w1, List.append_nil] at hxs
        subst hxs
        have S3 := m1.trans s3
        refine ⟨_, rfl, ?_⟩
        have hc1 := hok _ (List.mem_cons_self ..)
        have hn3 : LI H3 ln (r.take n) := s3 _ _ t1
        have hlf3 : LI H3 lf acc := S3 _ _ hlf
        have sm3 := sm.trans S3
        have hop3 := hop.same S3
        have hstep : ∀ rr, Kh375.execute o (Kh375Neutral.decodeCall (((j : Int) :: r.take n) :: xs)) = rr → Kh375Neutral.step o (((j : Int) :: r.take n) :: xs) = (rr.1, rI rr.2) := fun rr h => by
          unfold Kh375Neutral.step
          rw [h]
          rfl
        refine ⟨fun σ' H6 => ∃ (v' : V) (o' : Option Kh375.Problem) (tl : Addr) (res : List Int), σ' = [some (.ref lc), some v', some (.ref lf), some (vN e), some (vN j), some (vN e), some (.ref ln), some (.ref lr), x8, some (.ref tl)] ∧ L2.Same H H6 ∧ LI H6 lf acc ∧ tl ≠ lf ∧ LI H6 tl res ∧ OpPr A B H6 v' o' ∧ Kh375Neutral.step o (((j : Int) :: r.take n) :: xs) = (o', res), ?_, ?_⟩
        · refine ⟨_, rfl, rfl, _, rfl, ite2 (fun h2 => ?_) fun h2 => ?_⟩
          · have hj0 : (j : Int) ≠ 0 := by
              have := dec_ne (b := 0) |>.mp h2
              omega
            have sA : L2.Same (upd B lf (.lst (acc.map V.int))) H3 := fun b o z => by
              by_cases c : b = lf
              · subst c
                rw [upd_same] at z
                rw [← z]
                exact hlf3
              · rw [upd_ne c, hB b c] at z
                exact sm3 _ _ z
            refine ⟨_, rfl, _, rfl, _, rfl, _, rfl, v, ln, lr, (j : Int), r.take n, xs, o, upd B lf (.lst (acc.map V.int)), rfl, hop3.rebase (fun b z => ?_), sA, hn3, hrwl.rwl, hc1, hj0, fun H6 tl s6 n6 o6 l6 => ?_⟩
            · rw [upd_ne fun c => by rw [c, tB] at z; cases z]
              exact z
            · refine ⟨v, _, tl, _, rfl, fun b o z => s6 b o ?_, s6 _ _ upd_same, fun c => ?_, l6, o6.rebase (fun b z => ?_), hstep _ rfl⟩
              · have hb : b ≠ lf := fun c => by rw [c, nlf] at z; cases z
                rw [upd_ne hb, hB b hb]
                exact z
              · rw [c, upd_same] at n6
                cases n6
              · have hb : b ≠ lf := fun c => by rw [c, upd_same] at z; cases z
                rw [upd_ne hb] at z
                exact z
          · have hj0 : j = 0 := by
              by_cases c : j = 0
              · exact c
              · exact absurd (dec_ne (b := 0) |>.mpr c) h2
            subst hj0
            obtain ⟨a, hra, rfl, ha0⟩ : ∃ a, r.take n = [a] ∧ xs = [] ∧ 0 ≤ a := by
              rcases Mi.asked_cases hc1 with ⟨a, h1, h2, h3, _⟩ | ⟨a, l', _, _, _, h, _⟩ | ⟨_, _, h⟩ | ⟨l', _, _, ⟨h, _⟩ | ⟨h, _⟩⟩ | ⟨a, l', m', _, _, _, h, _⟩
              · exact ⟨a, h1, h2, h3⟩
              all_goals exfalso; omega
            obtain ⟨a', rfl⟩ := Int.eq_ofNat_of_zero_le ha0
            rw [hra] at hn3 hstep ⊢
            have hdc : Kh375Neutral.decodeCall ((((0 : Nat) : Int) :: [(a' : Int)]) :: []) = .create a' := by
              show Kh375.Call.create ((a' : Int).toNat) = _
              rw [Int.toNat_natCast]
            have hat0 : atI ([(a' : Int)].map V.int) 0 = some (vN a') := atI_nat (j := 0) rfl
            refine ⟨_, rfl, ln, _, _, _, rfl, rfl, SqL.of hn3, hat0, _, _, rfl, rfl, _, rfl, ite2 (fun h3 => ?_) fun h3 => ?_⟩
            · have h3' : 2 ≤ a' := by have := of_decide_eq_true h3; omega
              refine ⟨_, _, rfl, rfl, _, rfl, ite2 (fun h4 => ?_) fun h4 => ?_⟩
              · have h4' : a' ≤ 7 := by have := of_decide_eq_true h4; omega
                refine ⟨_, rfl, ln, _, _, _, rfl, rfl, SqL.of hn3, hat0, fun x dx nx ndx ndt => ⟨x, dx, a', H3, rfl, upd_same, (L2.Same.new ndx).mut nx, nx, h3', h4', fun H5 p5 s5 => ⟨rfl, ?_⟩⟩⟩
                refine ⟨(by show 1 ≤ sizeLine; decide), fun tl ntl => ?_⟩
                (generalize hgen : upd _ _ _ = H6; have m6 := grow_same hgen ntl; have t6 := grow_at hgen; clear hgen)
                have S6 := s5.trans m6
                refine ⟨.ref x, some ⟨a', []⟩, tl, [0], rfl, sm3.trans S6, S6 _ _ hlf3, fun c => ?_, t6, ?_, ?_⟩
                · rw [c, s5 _ _ hlf3] at ntl
                  cases ntl
                · have pr : OpPr A H3 H6 (.ref x) (some ⟨a', []⟩) := OpPr.same ⟨x, rfl, p5⟩ m6
                  refine pr.rebase fun b z => ?_
                  have hb : b ≠ lf := fun c => by rw [c, hlf3] at z; cases z
                  rw [hB b hb]
                  exact sm3.free z
                · rw [hstep (some ⟨a', []⟩, Kh375.single 0) (by
                    rw [hdc]
                    show (if a' < 2 ∨ 7 < a' then _ else _) = _
                    rw [if_neg (by omega)])]
                  rfl
              · have hbad : a' < 2 ∨ 7 < a' := .inr (by
                  have : ¬ (a' : Int) ≤ 7 := fun z => h4 (decide_eq_true z)
                  omega)
                refine ⟨_, rfl, (by show 1 ≤ sizeLine; decide), fun tl ntl => ?_⟩
                (generalize hgen : upd _ _ _ = H6; have m6 := grow_same hgen ntl; have t6 := grow_at hgen; clear hgen)
                refine ⟨v, o, tl, [-22], rfl, sm3.trans m6, m6 _ _ hlf3, fun c => ?_, t6, hop3.same m6, ?_⟩
                · rw [c, hlf3] at ntl
                  cases ntl
                · rw [hstep (o, Kh375.single (-22)) (by
                    rw [hdc]
                    show (if a' < 2 ∨ 7 < a' then _ else _) = _
                    rw [if_pos hbad])]
                  rfl
            · have hbad : a' < 2 ∨ 7 < a' := .inl (by
                have : ¬ (2 : Int) ≤ (a' : Int) := fun z => h3 (decide_eq_true z)
                omega)
              refine ⟨_, rfl, iteF ⟨_, rfl, (by show 1 ≤ sizeLine; decide), fun tl ntl => ?_⟩⟩
              (generalize hgen : upd _ _ _ = H6; have m6 := grow_same hgen ntl; have t6 := grow_at hgen; clear hgen)
              refine ⟨v, o, tl, [-22], rfl, sm3.trans m6, m6 _ _ hlf3, fun c => ?_, t6, hop3.same m6, ?_⟩
              · rw [c, hlf3] at ntl
                cases ntl
              · rw [hstep (o, Kh375.single (-22)) (by
                  rw [hdc]
                  show (if a' < 2 ∨ 7 < a' then _ else _) = _
                  rw [if_pos hbad])]
                rfl
        · rintro σ' H6 ⟨v', o', tl, res, rfl, s6, hlf6, htl, hres, ho6, hst⟩
          have hlen2 : acc.length + (1 + res.length) ≤ 10000000 := by
            refine Nat.le_trans ?_ hshort
            rw [← hacc]
            unfold PyFlat.played PyFlat.told
            rw [hst, List.length_append, List.flatMap_cons, List.length_append, List.length_cons]
            dsimp only
            omega
          have B0 : B lf ≠ none := by rw [tB]; exact fun z => nomatch z
          refine ⟨_, rfl, .inl ⟨rfl, _, SqL.of hlf6⟩, _, rfl, tl, _, rfl, .inl (SqL.of hres), lf, _, _, rfl, rfl, hlf6, ?_, ?_⟩
          · refine small_line ?_
            rw [List.length_map]
            omega
          have s7 := s6.mut (o := .lst (acc.map V.int ++ [.int ((res.map V.int).length : Nat)])) nlf
          have ho7 := ho6.keep (u := .lst (acc.map V.int ++ [.int ((res.map V.int).length : Nat)])) hlf6 B0
          have hres7 := keep (u := .lst (acc.map V.int ++ [.int ((res.map V.int).length : Nat)])) hres htl
          have hlf7 : upd H6 lf (.lst (acc.map V.int ++ [.int ((res.map V.int).length : Nat)])) lf = some (.lst (acc.map V.int ++ [.int ((res.map V.int).length : Nat)])) := upd_same
          generalize upd H6 lf (.lst (acc.map V.int ++ [.int ((res.map V.int).length : Nat)])) = H7 at *
          refine ⟨_, rfl, .inl ⟨rfl, _, SqL.of hlf7⟩, _, rfl, lf, tl, _, _, rfl, rfl, hlf7, hres7, ?_, ?_⟩
          · refine small_lineE ?_
            rw [List.length_append, List.length_map, List.length_map]
            simp only [List.length_singleton]
            omega
          · refine ⟨l.length - e, by omega, e, v', o', acc ++ ((res.length : Int) :: res), cs', fuel', _, _, _, _, _, _, rfl, rfl, hel, s7.mut nlf, ?_, ho7.keep hlf7 B0, ?_, fun c hc => hok c (List.mem_cons_of_mem _ hc), ?_⟩
            · show upd _ _ _ _ = _
              rw [upd_same, List.map_append, List.map_cons, List.length_map]
              simp
            · rw [w2]
              exact hcs'
            · rw [← hacc, List.append_assoc]
              congr 1
              unfold PyFlat.told
              rw [PyFlat.played, hst, List.flatMap_cons]
    · have hge : at_ = l.length := by
        have : ¬ (at_ : Int) < ((l.map V.int).length : Int) := fun z => h (decide_eq_true z)
        rw [hml] at this
        omega
      rw [hge, List.drop_length] at hcs
      rw [Mi.calls_nil hcs] at hacc
      refine ⟨_, rfl, q Hc lf sm ?_⟩
      show Hc lf = _
      rw [hlf, ← hacc]
      simp [PyFlat.played, PyFlat.told]
end
end G
set_option Elab.async false
set_option maxRecDepth 100000
set_option maxHeartbeats 4000000
namespace G
open PySem PySem.Spec PyProof.Rows L2
open Kh375 (Fact Rule)
/-! ### what the top has written, from what is found -/
section
variable {K : PySem.W.Frag} {h : Heap} {mg : Str → Option Value} {x qual : Str}
theorem d_mk {i : Nat} {ps : List Str} (KX : K.In h) (NS : h.Ns mainGlobals mg) {f : Addr} {od an : Option Addr} {sl : Array (Option Value)} {oc kV dc pm cd ct : Value}
    (a : PySem.W.nsIn K mainGlobals x = some (some (.ref f))) (l : K.lookup f = some ⟨oc, od, .func (PySem.W.fnOf x x (C8.fnArgs (topS i)) (C8.fnBody (topS i)) (C8.fnScope (topS i)) .none kV dc pm an cd ct), sl⟩) (c : PySem.W.codeIn K cd x = true) (k : PySem.W.keepIn K (.ref f) = true)
    (hb : ∀ (kV dc pm : Value) (an : Option Addr) (cd ct : Value) (us : List Value), us.length = ps.length → bindArgs (PySem.W.fnOf x x (C8.fnArgs (topS i)) (C8.fnBody (topS i)) (C8.fnScope (topS i)) .none kV dc pm an cd ct) ⟨us, []⟩ = pure (ps.zip us)) : DefOk K mg x i ps :=
  ⟨f, _, ⟨⟨_, _, _, _, _, _, _, _, _, _, rfl, l, c⟩, PySem.W.mg_of KX NS a, k⟩, .all (hb _ _ _ _ _ _)⟩
theorem int_mk {n : Int} {t : Tok} (KX : K.In h) (NS : h.Ns mainGlobals mg) (a : PySem.W.nsIn K mainGlobals x = some (some (.int n t))) : GInt mg x n := ⟨_, PySem.W.mg_of KX NS a, t, rfl⟩
theorem ref_mk {a : Addr} (KX : K.In h) (NS : h.Ns mainGlobals mg) (e : PySem.W.nsIn K mainGlobals x = some (some (.ref a))) : GRef mg x a := ⟨_, PySem.W.mg_of KX NS e, rfl⟩
end
theorem cls_mk {K : PySem.W.Frag} {h : Heap} {mg : Str → Option Value} {x qual : Str} {i : Nat} {ps : List Str} (KX : K.In h) (NS : h.Ns mainGlobals mg) {C f : Addr} {od an : Option Addr} {sl : Array (Option Value)} {oc kV dc pm cd ct : Value}
    (a : PySem.W.nsIn K mainGlobals x = some (some (.ref C))) (pg : PySem.W.plainGet K C Str.empty = true) (hd : PySem.W.hasDictIn K C = true) (po : PySem.W.plainOver K C = true) (sa : PySem.W.findIn K (.ref C) "__setattr__" = some (some (.builtin "object.__setattr__"))) (mk : PySem.W.makesIn K C = true) (kc : PySem.W.keepIn K (.ref C) = true)
    (a1 : PySem.W.findIn K (.ref C) "__init__" = some (some (.ref f))) (i1 : PySem.W.isFn K (.ref f) = true) (l : K.lookup f = some ⟨oc, od, .func (PySem.W.fnOf "__init__" qual (C8.fnArgs (inClass (topS i) 0)) (C8.fnBody (inClass (topS i) 0)) (C8.fnScope (inClass (topS i) 0)) .none kV dc pm an cd ct), sl⟩) (c : PySem.W.codeIn K cd qual = true)
    (hb : ∀ (kV dc pm : Value) (an : Option Addr) (cd ct : Value) (us : List Value), us.length = ps.length → bindArgs (PySem.W.fnOf "__init__" qual (C8.fnArgs (inClass (topS i) 0)) (C8.fnBody (inClass (topS i) 0)) (C8.fnScope (inClass (topS i) 0)) .none kV dc pm an cd ct) ⟨us, []⟩ = pure (ps.zip us)) : ClsOk K mg x qual i ps C :=
  ⟨⟨pg, hd, po, sa⟩, PySem.W.mg_of KX NS a, ⟨f, _, ⟨mk, a1, i1, kc⟩, ⟨_, _, _, _, _, _, _, _, _, _, rfl, l, c⟩, .all (hb _ _ _ _ _ _)⟩⟩
/-! ### nested tuples of ints -/
inductive D where
  | i (n : Int)
  | t (l : List D)
mutual
inductive KV (K : PySem.W.Frag) : Value → D → Prop
  | int {n : Int} {t : Tok} : KV K (.int n t) (.i n)
  | tup {a : Addr} {d : Option Addr} {its : Array Value} {n : Nat} {sl : Array (Option Value)} {ds : List D} : K.lookup a = some ⟨.type "tuple", d, .seq its n, sl⟩ → KVs K its.toList ds → KV K (.ref a) (.t ds)
inductive KVs (K : PySem.W.Frag) : List Value → List D → Prop
  | nil : KVs K [] []
  | cons {v : Value} {d : D} {vs : List Value} {ds : List D} : KV K v d → KVs K vs ds → KVs K (v :: vs) (d :: ds)
end
theorem KVs.len {K : PySem.W.Frag} : ∀ {vs : List Value} {ds : List D}, KVs K vs ds → vs.length = ds.length
  | _, _, .nil => rfl
  | _, _, .cons _ t => by rw [List.length_cons, List.length_cons, KVs.len t]
def vOf : Value → V
  | .int n _ => .int n
  | .ref a => .ref a
  | _ => .non
theorem kvs_rel {K : PySem.W.Frag} : ∀ {vs : List Value} {ds : List D}, KVs K vs ds → Vals (vs.map vOf) vs
  | _, _, .nil => .nil
  | _, _, .cons .int t => .cons ⟨_, rfl⟩ (kvs_rel t)
  | _, _, .cons (.tup _ _) t => .cons rfl (kvs_rel t)
theorem kvs_pair {K : PySem.W.Frag} : ∀ {vs : List Value} {ds : List D}, KVs K vs ds → Paired (fun v d => ∃ u, v = vOf u ∧ KV K u d) (vs.map vOf) ds
  | _, _, .nil => .nil
  | _, _, .cons h t => .cons ⟨_, rfl, h⟩ (kvs_pair t)
/-- a constant tuple, in any heap -/
theorem kv_sq {K : PySem.W.Frag} {u : Value} {ds : List D} (h : KV K u (.t ds)) (hs : ds.length ≤ 1000) : ∃ a vs, vOf u = V.ref a ∧ (∀ H, SqT K H a vs) ∧ Paired (fun v d => ∃ u, v = vOf u ∧ KV K u d) vs ds := by
  cases h with
  | tup l hv =>
    refine ⟨_, _, rfl, fun H => .inr ⟨_, _, _, l, rfl, rfl, ?_, kvs_rel hv⟩, kvs_pair hv⟩
    have := hv.len
    rw [Array.length_toList] at this
    exact small_lineE (by omega)
theorem kv_ints {K : PySem.W.Frag} {vs : List V} {ns : List Int} (h : Paired (fun v d => ∃ u, v = vOf u ∧ KV K u d) vs (ns.map D.i)) : vs = ns.map V.int := by
  generalize e : ns.map D.i = ds at h
  induction h generalizing ns with
  | nil =>
    cases ns with
    | nil => rfl
    | cons _ _ => cases e
  | cons hd tl ih =>
    cases ns with
    | nil => cases e
    | cons n ns =>
      rw [List.map_cons] at e
      injection e with e1 e2
      subst e1
      obtain ⟨u, rfl, hk⟩ := hd
      cases hk
      rw [ih e2, List.map_cons]
      rfl
def natD (ns : List Nat) : D := .t ((ns.map fun n : Nat => (n : Int)).map D.i)
theorem kv_nats {K : PySem.W.Frag} {u : Value} {ns : List Nat} (h : KV K u (natD ns)) (hs : ns.length ≤ 1000) : ∃ a, vOf u = V.ref a ∧ ∀ H, SqT K H a (ns.map vN) := by
  obtain ⟨a, vs, e, hq, hp⟩ := kv_sq h (by rw [List.length_map, List.length_map]; exact hs)
  rw [kv_ints hp, List.map_map] at hq
  exact ⟨a, e, hq⟩
def factD (f : Fact) : D := natD (f.kind :: f.points)
theorem kv_fact {K : PySem.W.Frag} {u : Value} {f : Fact} (h : KV K u (factD f)) (hs : f.points.length ≤ 100) : ∀ H, Pt K H (vOf u) f := fun H => by
  obtain ⟨a, e, hq⟩ := kv_nats h (by rw [List.length_cons]; omega)
  exact ⟨a, e, hq H⟩
theorem paired_map {α β γ : Type} {F : α → β → Prop} {G' : α → γ → Prop} {g : γ → β} (hF : ∀ a c, F a (g c) → G' a c) : ∀ {l1 : List α} {l2 : List γ}, Paired F l1 (l2.map g) → Paired G' l1 l2 := by
  intro l1 l2 h
  generalize e : l2.map g = l at h
  induction h generalizing l2 with
  | nil =>
    cases l2 with
    | nil => exact .nil
    | cons _ _ => cases e
  | cons hd tl ih =>
    cases l2 with
    | nil => cases e
    | cons c l2 =>
      rw [List.map_cons] at e
      injection e with e1 e2
      subst e1
      exact .cons (hF _ _ hd) (ih e2)
theorem kv_facts {K : PySem.W.Frag} {u : Value} {fs : List Fact} (h : KV K u (.t (fs.map factD))) (hs : fs.length ≤ 100) (h4 : ∀ f ∈ fs, f.points.length ≤ 100) : ∀ H, PtL K H (vOf u) fs := fun H => by
  obtain ⟨a, vs, e, hq, hp⟩ := kv_sq h (by rw [List.length_map]; omega)
  refine ⟨a, vs, e, hq H, ?_⟩
  have key : ∀ {vs : List V} {fs : List Fact}, (∀ f ∈ fs, f.points.length ≤ 100) → Paired (fun v d => ∃ u, v = vOf u ∧ KV K u d) vs (fs.map factD) → Paired (Pt K H) vs fs := by
    intro vs fs h4 h
    generalize e : fs.map factD = l at h
    induction h generalizing fs with
    | nil =>
      cases fs with
      | nil => exact .nil
      | cons _ _ => cases e
    | cons hd tl ih =>
      cases fs with
      | nil => cases e
      | cons c fs =>
        rw [List.map_cons] at e
        injection e with e1 e2
        subst e1
        obtain ⟨u, rfl, hk⟩ := hd
        exact .cons (kv_fact hk (h4 c (List.mem_cons_self ..)) H) (ih (fun f hf => h4 f (List.mem_cons_of_mem _ hf)) e2)
  exact key h4 hp
def ruleD (r : Rule) : D := .t [.i r.variableCount, .t (r.premises.map factD), .t (r.conclusions.map factD)]
theorem kv_rule {K : PySem.W.Frag} {u : Value} {r : Rule} (h : KV K u (ruleD r)) (ok : Mi.RuleOk r) : ∀ H, RuleAt K H (vOf u) r := fun H => by
  obtain ⟨a, vs, e, hq, hp⟩ := kv_sq h (by simp)
  cases hp with
  | cons h0 t => cases t with
    | cons h1 t => cases t with
      | cons h2 t =>
        cases t
        obtain ⟨u0, rfl, k0⟩ := h0
        obtain ⟨u1, rfl, k1⟩ := h1
        obtain ⟨u2, rfl, k2⟩ := h2
        cases k0
        have np := ok.nprem
        have nc := ok.nconc
        exact ⟨a, vOf u1, vOf u2, e, hq H, kv_facts k1 (by omega) (fun f hf => by have := (ok.prem f hf).most; omega) H, kv_facts k2 (by omega) (fun f hf => by have := (ok.conc f hf).most; omega) H⟩
theorem kv_rules {K : PySem.W.Frag} {a : Addr} (h : KV K (.ref a) (.t (Kh375.rules.map ruleD))) : RulesAt K a := by
  obtain ⟨a', vs, e, hq, hp⟩ := kv_sq h (by decide)
  cases e
  refine ⟨vs, fun H => ⟨hq H, ?_⟩⟩
  have key : ∀ {vs : List V} {rs : List Rule}, (∀ r ∈ rs, Mi.RuleOk r) → Paired (fun v d => ∃ u, v = vOf u ∧ KV K u d) vs (rs.map ruleD) → Paired (RuleAt K H) vs rs := by
    intro vs rs hk h
    generalize e : rs.map ruleD = l at h
    induction h generalizing rs with
    | nil =>
      cases rs with
      | nil => exact .nil
      | cons _ _ => cases e
    | cons hd tl ih =>
      cases rs with
      | nil => cases e
      | cons c rs =>
        rw [List.map_cons] at e
        injection e with e1 e2
        subst e1
        obtain ⟨u, rfl, hu⟩ := hd
        exact .cons (kv_rule hu (hk c (List.mem_cons_self ..)) H) (ih (fun r hr => hk r (List.mem_cons_of_mem _ hr)) e2)
  exact key (fun r hr => Mi.rule_ok hr) hp
theorem kv_ord {K : PySem.W.Frag} {a : Addr} {os : List (List Nat)} (h : KV K (.ref a) (.t (os.map natD))) (hl : os.length ≤ 100) (h4 : ∀ o ∈ os, o.length ≤ 100) : OrdAt K a os := by
  obtain ⟨a', vs, e, hq, hp⟩ := kv_sq h (by rw [List.length_map]; omega)
  cases e
  refine ⟨vs, fun H => ⟨hq H, ?_⟩⟩
  have key : ∀ {vs : List V} {os : List (List Nat)}, (∀ o ∈ os, o.length ≤ 100) → Paired (fun v d => ∃ u, v = vOf u ∧ KV K u d) vs (os.map natD) → OrdL K H vs os := by
    intro vs rs hk h
    generalize e : rs.map natD = l at h
    induction h generalizing rs with
    | nil =>
      cases rs with
      | nil => exact .nil
      | cons _ _ => cases e
    | cons hd tl ih =>
      cases rs with
      | nil => cases e
      | cons c rs =>
        rw [List.map_cons] at e
        injection e with e1 e2
        subst e1
        obtain ⟨u, rfl, hu⟩ := hd
        obtain ⟨b, eb, hb⟩ := kv_nats hu (by have := hk c (List.mem_cons_self ..); omega)
        exact .cons ⟨b, eb, hb H⟩ (ih (fun r hr => hk r (List.mem_cons_of_mem _ hr)) e2)
  exact key h4 hp
def DeedsAt (K : PySem.W.Frag) (mg : Str → Option Value) (a : Addr) : Prop := ∃ fs : List Addr, (∀ H, SqT K H a (.non :: fs.map V.ref)) ∧ Paired (fun f x => mg x = some (.ref f)) fs deedNames
theorem deeds_mk {K : PySem.W.Frag} {mg : Str → Option Value} {a : Addr} {d : Option Addr} {its : Array Value} {n : Nat} {sl : Array (Option Value)} {fs : List Addr} (l : K.lookup a = some ⟨.type "tuple", d, .seq its n, sl⟩) (hs : its.toList = .none :: fs.map Value.ref) (hp : Paired (fun f x => mg x = some (.ref f)) fs deedNames) :
    DeedsAt K mg a := by
  refine ⟨fs, fun H => .inr ⟨_, its, n, l, rfl, rfl, ?_, ?_⟩, hp⟩
  · have := congrArg List.length hs
    rw [Array.length_toList, List.length_cons, List.length_map, hp.length] at this
    refine small_lineE ?_
    rw [this]
    decide
  · rw [hs]
    have key : ∀ l : List Addr, Vals (l.map V.ref) (l.map Value.ref) := by
      intro l
      induction l with
      | nil => exact .nil
      | cons a l ih => exact .cons rfl ih
    exact .cons rfl (key fs)
theorem kv_row {K : PySem.W.Frag} {a : Addr} {ns : List Nat} (h : KV K (.ref a) (natD ns)) (hs : ns.length ≤ 1000) : ∀ H, SqT K H a (ns.map vN) := by
  obtain ⟨a', e, hq⟩ := kv_nats h hs
  cases e
  exact hq
theorem ans_mk {K : PySem.W.Frag} {h : Heap} {mg : Str → Option Value} {fa f : Addr} {od an : Option Addr} {sl : Array (Option Value)} {oc kV dc pm cd ct : Value} (KX : K.In h) (NS : h.Ns mainGlobals mg) (hfa : mg "answers" = some (.ref fa))
    (a : PySem.W.nsIn K mainGlobals "answers" = some (some (.ref f))) (l : K.lookup f = some ⟨oc, od, .func (PySem.W.fnOf "answers" "answers" (C8.fnArgs (topS 84)) (C8.fnBody (topS 84)) (C8.fnScope (topS 84)) .none kV dc pm an cd ct), sl⟩) (c : PySem.W.codeIn K cd "answers" = true) (k : PySem.W.keepIn K (.ref f) = true) :
    ∃ fd : FuncData, (∀ (s : Shared) (us : List Value), us.length = (["calls"] : List Str).length → BindsTo s fd ⟨us, []⟩ ((["calls"] : List Str).zip us)) ∧ C8.Def K mg "answers" (topS 84) fa fd := by
  cases hfa.symm.trans (PySem.W.mg_of KX NS a)
  exact ⟨PySem.W.fnOf "answers" "answers" (C8.fnArgs (topS 84)) (C8.fnBody (topS 84)) (C8.fnScope (topS 84)) .none kV dc pm an cd ct, fun s us hu => match us, hu with | [_], _ => .of_eq rfl, ⟨⟨_, _, _, _, _, _, _, _, _, _, rfl, l, c⟩, PySem.W.mg_of KX NS a, k⟩⟩
end G
open PySem PySem.W PyProof.Rows
set_option maxRecDepth 100000 in
set_option maxHeartbeats 0 in
theorem PySem.Challenge.cw_planefacts_s01_answers_holds : PySem.Challenge.rw_planefacts_s01_answers.Holds := by
  w_on; k_headS; (case hw => exact ⟨[.list [.int 3]], by decide +kernel, by decide +kernel⟩)
  k_fillS
  refine L2.walk_specK (r := PySem.Challenge.rw_planefacts_s01_answers) (k := 12) (CX := C8.CX0) (ps := ["calls"]) (sp := G.sp_answers) (by decide +kernel) rfl rfl ⟨rfl, by decide, by decide⟩ (fun w h Y => PySem.W.kIn_of Y) ?F ?S (fun _ _ _ _ z => z)
  case F =>
    intro w mg fa h Y KX NS hmg
    have n_len : mg "len" = none := by
      refine PySem.W.mg_none_of KX NS ?_
      k_is
    have n_list : mg "list" = none := by
      refine PySem.W.mg_none_of KX NS ?_
      k_is
    have n_tuple : mg "tuple" = none := by
      refine PySem.W.mg_none_of KX NS ?_
      k_is
    have n_set : mg "set" = none := by
      refine PySem.W.mg_none_of KX NS ?_
      k_is
    have n_sorted : mg "sorted" = none := by
      refine PySem.W.mg_none_of KX NS ?_
      k_is
    have n_min : mg "min" = none := by
      refine PySem.W.mg_none_of KX NS ?_
      k_is
    have n_max : mg "max" = none := by
      refine PySem.W.mg_none_of KX NS ?_
      k_is
    have n_all : mg "all" = none := by
      refine PySem.W.mg_none_of KX NS ?_
      k_is
    have n_any : mg "any" = none := by
      refine PySem.W.mg_none_of KX NS ?_
      k_is
    have n_range : mg "range" = none := by
      refine PySem.W.mg_none_of KX NS ?_
      k_is
    have n_zip : mg "zip" = none := by
      refine PySem.W.mg_none_of KX NS ?_
      k_is
    have n_enumerate : mg "enumerate" = none := by
      refine PySem.W.mg_none_of KX NS ?_
      k_is
    have g_COLLINEAR : G.GInt mg "COLLINEAR" 0 := by
      refine' G.int_mk KX NS ?a
      (case a => k_is)
    have g_PARALLEL : G.GInt mg "PARALLEL" 1 := by
      refine' G.int_mk KX NS ?a
      (case a => k_is)
    have g_PERPENDICULAR : G.GInt mg "PERPENDICULAR" 2 := by
      refine' G.int_mk KX NS ?a
      (case a => k_is)
    have g_EQUAL : G.GInt mg "EQUAL" 3 := by
      refine' G.int_mk KX NS ?a
      (case a => k_is)
    have g_MIDPOINT : G.GInt mg "MIDPOINT" 4 := by
      refine' G.int_mk KX NS ?a
      (case a => k_is)
    have g_CONCYCLIC : G.GInt mg "CONCYCLIC" 5 := by
      refine' G.int_mk KX NS ?a
      (case a => k_is)
    have g_APART : G.GInt mg "APART" 6 := by
      refine' G.int_mk KX NS ?a
      (case a => k_is)
    have g_MOST_COORDINATE : G.GInt mg "MOST_COORDINATE" 1000 := by
      refine' G.int_mk KX NS ?a
      (case a => k_is)
    have g_MOST_KIND : G.GInt mg "MOST_KIND" 6 := by
      refine' G.int_mk KX NS ?a
      (case a => k_is)
    have g_MOST_HYPOTHESES : G.GInt mg "MOST_HYPOTHESES" 16 := by
      refine' G.int_mk KX NS ?a
      (case a => k_is)
    have g_CREATE : G.GInt mg "CREATE" 0 := by
      refine' G.int_mk KX NS ?a
      (case a => k_is)
    have d_has_segments : G.DefOk (PySem.Challenge.cw_planefacts_s01_answers_holds.heap_1 w.params) mg "has_segments" 11 ["kind"] := by
      refine' G.d_mk KX NS ?a ?l ?c ?k fun _ _ _ _ _ _ us hl => match us, hl with | [_], _ => rfl
      (case a => k_is); (case l => k_is); (case c => k_is); (case k => k_is)
    have d_is_degenerate : G.DefOk (PySem.Challenge.cw_planefacts_s01_answers_holds.heap_1 w.params) mg "is_degenerate" 12 ["kind", "points"] := by
      refine' G.d_mk KX NS ?a ?l ?c ?k fun _ _ _ _ _ _ us hl => match us, hl with | [_, _], _ => rfl
      (case a => k_is); (case l => k_is); (case c => k_is); (case k => k_is)
    have d_normal : G.DefOk (PySem.Challenge.cw_planefacts_s01_answers_holds.heap_1 w.params) mg "normal" 13 ["kind", "points"] := by
      refine' G.d_mk KX NS ?a ?l ?c ?k fun _ _ _ _ _ _ us hl => match us, hl with | [_, _], _ => rfl
      (case a => k_is); (case l => k_is); (case c => k_is); (case k => k_is)
    have d_four_orders : G.DefOk (PySem.Challenge.cw_planefacts_s01_answers_holds.heap_1 w.params) mg "four_orders" 14 [] := by
      refine' G.d_mk KX NS ?a ?l ?c ?k fun _ _ _ _ _ _ us hl => match us, hl with | [], _ => rfl
      (case a => k_is); (case l => k_is); (case c => k_is); (case k => k_is)
    have d_orders_of : G.DefOk (PySem.Challenge.cw_planefacts_s01_answers_holds.heap_1 w.params) mg "orders_of" 15 ["kind"] := by
      refine' G.d_mk KX NS ?a ?l ?c ?k fun _ _ _ _ _ _ us hl => match us, hl with | [_], _ => rfl
      (case a => k_is); (case l => k_is); (case c => k_is); (case k => k_is)
    have d_readings : G.DefOk (PySem.Challenge.cw_planefacts_s01_answers_holds.heap_1 w.params) mg "readings" 16 ["fact"] := by
      refine' G.d_mk KX NS ?a ?l ?c ?k fun _ _ _ _ _ _ us hl => match us, hl with | [_], _ => rfl
      (case a => k_is); (case l => k_is); (case c => k_is); (case k => k_is)
    have d_line_of : G.DefOk (PySem.Challenge.cw_planefacts_s01_answers_holds.heap_1 w.params) mg "line_of" 17 ["fact"] := by
      refine' G.d_mk KX NS ?a ?l ?c ?k fun _ _ _ _ _ _ us hl => match us, hl with | [_], _ => rfl
      (case a => k_is); (case l => k_is); (case c => k_is); (case k => k_is)
    have d_are_coordinates : G.DefOk (PySem.Challenge.cw_planefacts_s01_answers_holds.heap_1 w.params) mg "are_coordinates" 20 ["many", "row"] := by
      refine' G.d_mk KX NS ?a ?l ?c ?k fun _ _ _ _ _ _ us hl => match us, hl with | [_, _], _ => rfl
      (case a => k_is); (case l => k_is); (case c => k_is); (case k => k_is)
    have d_spots_of : G.DefOk (PySem.Challenge.cw_planefacts_s01_answers_holds.heap_1 w.params) mg "spots_of" 21 ["row"] := by
      refine' G.d_mk KX NS ?a ?l ?c ?k fun _ _ _ _ _ _ us hl => match us, hl with | [_], _ => rfl
      (case a => k_is); (case l => k_is); (case c => k_is); (case k => k_is)
    have d_vector : G.DefOk (PySem.Challenge.cw_planefacts_s01_answers_holds.heap_1 w.params) mg "vector" 22 ["start", "end"] := by
      refine' G.d_mk KX NS ?a ?l ?c ?k fun _ _ _ _ _ _ us hl => match us, hl with | [_, _], _ => rfl
      (case a => k_is); (case l => k_is); (case c => k_is); (case k => k_is)
    have d_cross : G.DefOk (PySem.Challenge.cw_planefacts_s01_answers_holds.heap_1 w.params) mg "cross" 23 ["one", "other"] := by
      refine' G.d_mk KX NS ?a ?l ?c ?k fun _ _ _ _ _ _ us hl => match us, hl with | [_, _], _ => rfl
      (case a => k_is); (case l => k_is); (case c => k_is); (case k => k_is)
    have d_dot : G.DefOk (PySem.Challenge.cw_planefacts_s01_answers_holds.heap_1 w.params) mg "dot" 24 ["one", "other"] := by
      refine' G.d_mk KX NS ?a ?l ?c ?k fun _ _ _ _ _ _ us hl => match us, hl with | [_, _], _ => rfl
      (case a => k_is); (case l => k_is); (case c => k_is); (case k => k_is)
    have d_area : G.DefOk (PySem.Challenge.cw_planefacts_s01_answers_holds.heap_1 w.params) mg "area" 25 ["a", "b", "c"] := by
      refine' G.d_mk KX NS ?a ?l ?c ?k fun _ _ _ _ _ _ us hl => match us, hl with | [_, _, _], _ => rfl
      (case a => k_is); (case l => k_is); (case c => k_is); (case k => k_is)
    have d_circle_number : G.DefOk (PySem.Challenge.cw_planefacts_s01_answers_holds.heap_1 w.params) mg "circle_number" 26 ["a", "b", "c", "d"] := by
      refine' G.d_mk KX NS ?a ?l ?c ?k fun _ _ _ _ _ _ us hl => match us, hl with | [_, _, _, _], _ => rfl
      (case a => k_is); (case l => k_is); (case c => k_is); (case k => k_is)
    have d_pair_holds : G.DefOk (PySem.Challenge.cw_planefacts_s01_answers_holds.heap_1 w.params) mg "pair_holds" 27 ["kind", "spots"] := by
      refine' G.d_mk KX NS ?a ?l ?c ?k fun _ _ _ _ _ _ us hl => match us, hl with | [_, _], _ => rfl
      (case a => k_is); (case l => k_is); (case c => k_is); (case k => k_is)
    have d_holds : G.DefOk (PySem.Challenge.cw_planefacts_s01_answers_holds.heap_1 w.params) mg "holds" 28 ["fact", "places"] := by
      refine' G.d_mk KX NS ?a ?l ?c ?k fun _ _ _ _ _ _ us hl => match us, hl with | [_, _], _ => rfl
      (case a => k_is); (case l => k_is); (case c => k_is); (case k => k_is)
    have d_are_distinct : G.DefOk (PySem.Challenge.cw_planefacts_s01_answers_holds.heap_1 w.params) mg "are_distinct" 29 ["spots"] := by
      refine' G.d_mk KX NS ?a ?l ?c ?k fun _ _ _ _ _ _ us hl => match us, hl with | [_], _ => rfl
      (case a => k_is); (case l => k_is); (case c => k_is); (case k => k_is)
    have d_filled : G.DefOk (PySem.Challenge.cw_planefacts_s01_answers_holds.heap_1 w.params) mg "filled" 32 ["pattern", "values"] := by
      refine' G.d_mk KX NS ?a ?l ?c ?k fun _ _ _ _ _ _ us hl => match us, hl with | [_, _], _ => rfl
      (case a => k_is); (case l => k_is); (case c => k_is); (case k => k_is)
    have d_matched : G.DefOk (PySem.Challenge.cw_planefacts_s01_answers_holds.heap_1 w.params) mg "matched" 33 ["pattern", "reading", "values"] := by
      refine' G.d_mk KX NS ?a ?l ?c ?k fun _ _ _ _ _ _ us hl => match us, hl with | [_, _, _], _ => rfl
      (case a => k_is); (case l => k_is); (case c => k_is); (case k => k_is)
    have d_first_open : G.DefOk (PySem.Challenge.cw_planefacts_s01_answers_holds.heap_1 w.params) mg "first_open" 34 ["pattern", "values"] := by
      refine' G.d_mk KX NS ?a ?l ?c ?k fun _ _ _ _ _ _ us hl => match us, hl with | [_, _], _ => rfl
      (case a => k_is); (case l => k_is); (case c => k_is); (case k => k_is)
    have d_learn : G.DefOk (PySem.Challenge.cw_planefacts_s01_answers_holds.heap_1 w.params) mg "learn" 37 ["theory", "fact", "number"] := by
      refine' G.d_mk KX NS ?a ?l ?c ?k fun _ _ _ _ _ _ us hl => match us, hl with | [_, _, _], _ => rfl
      (case a => k_is); (case l => k_is); (case c => k_is); (case k => k_is)
    have d_conclude : G.DefOk (PySem.Challenge.cw_planefacts_s01_answers_holds.heap_1 w.params) mg "conclude" 38 ["theory", "rule", "values", "found"] := by
      refine' G.d_mk KX NS ?a ?l ?c ?k fun _ _ _ _ _ _ us hl => match us, hl with | [_, _, _, _], _ => rfl
      (case a => k_is); (case l => k_is); (case c => k_is); (case k => k_is)
    have d_choices : G.DefOk (PySem.Challenge.cw_planefacts_s01_answers_holds.heap_1 w.params) mg "choices" 39 ["theory", "pattern", "values"] := by
      refine' G.d_mk KX NS ?a ?l ?c ?k fun _ _ _ _ _ _ us hl => match us, hl with | [_, _, _], _ => rfl
      (case a => k_is); (case l => k_is); (case c => k_is); (case k => k_is)
    have d_spread : G.DefOk (PySem.Challenge.cw_planefacts_s01_answers_holds.heap_1 w.params) mg "spread" 40 ["theory", "rule", "skipped", "values", "found"] := by
      refine' G.d_mk KX NS ?a ?l ?c ?k fun _ _ _ _ _ _ us hl => match us, hl with | [_, _, _, _, _], _ => rfl
      (case a => k_is); (case l => k_is); (case c => k_is); (case k => k_is)
    have d_derived : G.DefOk (PySem.Challenge.cw_planefacts_s01_answers_holds.heap_1 w.params) mg "derived" 41 ["theory", "news"] := by
      refine' G.d_mk KX NS ?a ?l ?c ?k fun _ _ _ _ _ _ us hl => match us, hl with | [_, _], _ => rfl
      (case a => k_is); (case l => k_is); (case c => k_is); (case k => k_is)
    have d_theory_of : G.DefOk (PySem.Challenge.cw_planefacts_s01_answers_holds.heap_1 w.params) mg "theory_of" 42 ["many", "hypotheses"] := by
      refine' G.d_mk KX NS ?a ?l ?c ?k fun _ _ _ _ _ _ us hl => match us, hl with | [_, _], _ => rfl
      (case a => k_is); (case l => k_is); (case c => k_is); (case k => k_is)
    have d_assignments : G.DefOk (PySem.Challenge.cw_planefacts_s01_answers_holds.heap_1 w.params) mg "assignments" 44 ["many", "values"] := by
      refine' G.d_mk KX NS ?a ?l ?c ?k fun _ _ _ _ _ _ us hl => match us, hl with | [_, _], _ => rfl
      (case a => k_is); (case l => k_is); (case c => k_is); (case k => k_is)
    have d_premises_of : G.DefOk (PySem.Challenge.cw_planefacts_s01_answers_holds.heap_1 w.params) mg "premises_of" 45 ["rule", "values"] := by
      refine' G.d_mk KX NS ?a ?l ?c ?k fun _ _ _ _ _ _ us hl => match us, hl with | [_, _], _ => rfl
      (case a => k_is); (case l => k_is); (case c => k_is); (case k => k_is)
    have d_first_assignment : G.DefOk (PySem.Challenge.cw_planefacts_s01_answers_holds.heap_1 w.params) mg "first_assignment" 46 ["many", "rule", "fact", "given"] := by
      refine' G.d_mk KX NS ?a ?l ?c ?k fun _ _ _ _ _ _ us hl => match us, hl with | [_, _, _, _], _ => rfl
      (case a => k_is); (case l => k_is); (case c => k_is); (case k => k_is)
    have d_lesser : G.DefOk (PySem.Challenge.cw_planefacts_s01_answers_holds.heap_1 w.params) mg "lesser" 47 ["one", "other"] := by
      refine' G.d_mk KX NS ?a ?l ?c ?k fun _ _ _ _ _ _ us hl => match us, hl with | [_, _], _ => rfl
      (case a => k_is); (case l => k_is); (case c => k_is); (case k => k_is)
    have d_first_given : G.DefOk (PySem.Challenge.cw_planefacts_s01_answers_holds.heap_1 w.params) mg "first_given" 48 ["many", "rule", "values", "given"] := by
      refine' G.d_mk KX NS ?a ?l ?c ?k fun _ _ _ _ _ _ us hl => match us, hl with | [_, _, _, _], _ => rfl
      (case a => k_is); (case l => k_is); (case c => k_is); (case k => k_is)
    have d_readings_before : G.DefOk (PySem.Challenge.cw_planefacts_s01_answers_holds.heap_1 w.params) mg "readings_before" 49 ["theory", "number"] := by
      refine' G.d_mk KX NS ?a ?l ?c ?k fun _ _ _ _ _ _ us hl => match us, hl with | [_, _], _ => rfl
      (case a => k_is); (case l => k_is); (case c => k_is); (case k => k_is)
    have d_reason_of : G.DefOk (PySem.Challenge.cw_planefacts_s01_answers_holds.heap_1 w.params) mg "reason_of" 50 ["theory", "fact"] := by
      refine' G.d_mk KX NS ?a ?l ?c ?k fun _ _ _ _ _ _ us hl => match us, hl with | [_, _], _ => rfl
      (case a => k_is); (case l => k_is); (case c => k_is); (case k => k_is)
    have d_proof_of : G.DefOk (PySem.Challenge.cw_planefacts_s01_answers_holds.heap_1 w.params) mg "proof_of" 51 ["theory", "fact"] := by
      refine' G.d_mk KX NS ?a ?l ?c ?k fun _ _ _ _ _ _ us hl => match us, hl with | [_, _], _ => rfl
      (case a => k_is); (case l => k_is); (case c => k_is); (case k => k_is)
    have d_is_derived : G.DefOk (PySem.Challenge.cw_planefacts_s01_answers_holds.heap_1 w.params) mg "is_derived" 52 ["many", "fact", "given"] := by
      refine' G.d_mk KX NS ?a ?l ?c ?k fun _ _ _ _ _ _ us hl => match us, hl with | [_, _, _], _ => rfl
      (case a => k_is); (case l => k_is); (case c => k_is); (case k => k_is)
    have d_correct_count : G.DefOk (PySem.Challenge.cw_planefacts_s01_answers_holds.heap_1 w.params) mg "correct_count" 53 ["many", "hypotheses", "facts"] := by
      refine' G.d_mk KX NS ?a ?l ?c ?k fun _ _ _ _ _ _ us hl => match us, hl with | [_, _, _], _ => rfl
      (case a => k_is); (case l => k_is); (case c => k_is); (case k => k_is)
    have d_needed : G.DefOk (PySem.Challenge.cw_planefacts_s01_answers_holds.heap_1 w.params) mg "needed" 54 ["many", "hypotheses", "theory", "fact"] := by
      refine' G.d_mk KX NS ?a ?l ?c ?k fun _ _ _ _ _ _ us hl => match us, hl with | [_, _, _, _], _ => rfl
      (case a => k_is); (case l => k_is); (case c => k_is); (case k => k_is)
    have d_fact_of : G.DefOk (PySem.Challenge.cw_planefacts_s01_answers_holds.heap_1 w.params) mg "fact_of" 59 ["problem", "kind", "points"] := by
      refine' G.d_mk KX NS ?a ?l ?c ?k fun _ _ _ _ _ _ us hl => match us, hl with | [_, _, _], _ => rfl
      (case a => k_is); (case l => k_is); (case c => k_is); (case k => k_is)
    have d_known_theory : G.DefOk (PySem.Challenge.cw_planefacts_s01_answers_holds.heap_1 w.params) mg "known_theory" 60 ["problem"] := by
      refine' G.d_mk KX NS ?a ?l ?c ?k fun _ _ _ _ _ _ us hl => match us, hl with | [_], _ => rfl
      (case a => k_is); (case l => k_is); (case c => k_is); (case k => k_is)
    have d_has_hypothesis : G.DefOk (PySem.Challenge.cw_planefacts_s01_answers_holds.heap_1 w.params) mg "has_hypothesis" 61 ["problem", "index"] := by
      refine' G.d_mk KX NS ?a ?l ?c ?k fun _ _ _ _ _ _ us hl => match us, hl with | [_, _], _ => rfl
      (case a => k_is); (case l => k_is); (case c => k_is); (case k => k_is)
    have d_add_hypothesis : G.DefOk (PySem.Challenge.cw_planefacts_s01_answers_holds.heap_1 w.params) mg "add_hypothesis" 62 ["problem", "numbers", "rows"] := by
      refine' G.d_mk KX NS ?a ?l ?c ?k fun _ _ _ _ _ _ us hl => match us, hl with | [_, _, _], _ => rfl
      (case a => k_is); (case l => k_is); (case c => k_is); (case k => k_is)
    have d_remove_hypothesis : G.DefOk (PySem.Challenge.cw_planefacts_s01_answers_holds.heap_1 w.params) mg "remove_hypothesis" 63 ["problem", "numbers", "rows"] := by
      refine' G.d_mk KX NS ?a ?l ?c ?k fun _ _ _ _ _ _ us hl => match us, hl with | [_, _, _], _ => rfl
      (case a => k_is); (case l => k_is); (case c => k_is); (case k => k_is)
    have d_hypothesis_count : G.DefOk (PySem.Challenge.cw_planefacts_s01_answers_holds.heap_1 w.params) mg "hypothesis_count" 64 ["problem", "numbers", "rows"] := by
      refine' G.d_mk KX NS ?a ?l ?c ?k fun _ _ _ _ _ _ us hl => match us, hl with | [_, _, _], _ => rfl
      (case a => k_is); (case l => k_is); (case c => k_is); (case k => k_is)
    have d_get_hypothesis : G.DefOk (PySem.Challenge.cw_planefacts_s01_answers_holds.heap_1 w.params) mg "get_hypothesis" 65 ["problem", "numbers", "rows"] := by
      refine' G.d_mk KX NS ?a ?l ?c ?k fun _ _ _ _ _ _ us hl => match us, hl with | [_, _, _], _ => rfl
      (case a => k_is); (case l => k_is); (case c => k_is); (case k => k_is)
    have d_known_count : G.DefOk (PySem.Challenge.cw_planefacts_s01_answers_holds.heap_1 w.params) mg "known_count" 66 ["problem", "numbers", "rows"] := by
      refine' G.d_mk KX NS ?a ?l ?c ?k fun _ _ _ _ _ _ us hl => match us, hl with | [_, _, _], _ => rfl
      (case a => k_is); (case l => k_is); (case c => k_is); (case k => k_is)
    have d_list_known : G.DefOk (PySem.Challenge.cw_planefacts_s01_answers_holds.heap_1 w.params) mg "list_known" 67 ["problem", "numbers", "rows"] := by
      refine' G.d_mk KX NS ?a ?l ?c ?k fun _ _ _ _ _ _ us hl => match us, hl with | [_, _, _], _ => rfl
      (case a => k_is); (case l => k_is); (case c => k_is); (case k => k_is)
    have d_round_count : G.DefOk (PySem.Challenge.cw_planefacts_s01_answers_holds.heap_1 w.params) mg "round_count" 68 ["problem", "numbers", "rows"] := by
      refine' G.d_mk KX NS ?a ?l ?c ?k fun _ _ _ _ _ _ us hl => match us, hl with | [_, _, _], _ => rfl
      (case a => k_is); (case l => k_is); (case c => k_is); (case k => k_is)
    have d_round_of : G.DefOk (PySem.Challenge.cw_planefacts_s01_answers_holds.heap_1 w.params) mg "round_of" 69 ["problem", "numbers", "rows"] := by
      refine' G.d_mk KX NS ?a ?l ?c ?k fun _ _ _ _ _ _ us hl => match us, hl with | [_, _, _], _ => rfl
      (case a => k_is); (case l => k_is); (case c => k_is); (case k => k_is)
    have d_reason : G.DefOk (PySem.Challenge.cw_planefacts_s01_answers_holds.heap_1 w.params) mg "reason" 70 ["problem", "numbers", "rows"] := by
      refine' G.d_mk KX NS ?a ?l ?c ?k fun _ _ _ _ _ _ us hl => match us, hl with | [_, _, _], _ => rfl
      (case a => k_is); (case l => k_is); (case c => k_is); (case k => k_is)
    have d_proof : G.DefOk (PySem.Challenge.cw_planefacts_s01_answers_holds.heap_1 w.params) mg "proof" 71 ["problem", "numbers", "rows"] := by
      refine' G.d_mk KX NS ?a ?l ?c ?k fun _ _ _ _ _ _ us hl => match us, hl with | [_, _, _], _ => rfl
      (case a => k_is); (case l => k_is); (case c => k_is); (case k => k_is)
    have d_needed_hypotheses : G.DefOk (PySem.Challenge.cw_planefacts_s01_answers_holds.heap_1 w.params) mg "needed_hypotheses" 72 ["problem", "numbers", "rows"] := by
      refine' G.d_mk KX NS ?a ?l ?c ?k fun _ _ _ _ _ _ us hl => match us, hl with | [_, _, _], _ => rfl
      (case a => k_is); (case l => k_is); (case c => k_is); (case k => k_is)
    have d_line_fact : G.DefOk (PySem.Challenge.cw_planefacts_s01_answers_holds.heap_1 w.params) mg "line_fact" 73 ["problem", "line"] := by
      refine' G.d_mk KX NS ?a ?l ?c ?k fun _ _ _ _ _ _ us hl => match us, hl with | [_, _], _ => rfl
      (case a => k_is); (case l => k_is); (case c => k_is); (case k => k_is)
    have d_check_proof : G.DefOk (PySem.Challenge.cw_planefacts_s01_answers_holds.heap_1 w.params) mg "check_proof" 74 ["problem", "numbers", "rows"] := by
      refine' G.d_mk KX NS ?a ?l ?c ?k fun _ _ _ _ _ _ us hl => match us, hl with | [_, _, _], _ => rfl
      (case a => k_is); (case l => k_is); (case c => k_is); (case k => k_is)
    have d_contradiction : G.DefOk (PySem.Challenge.cw_planefacts_s01_answers_holds.heap_1 w.params) mg "contradiction" 75 ["problem", "numbers", "rows"] := by
      refine' G.d_mk KX NS ?a ?l ?c ?k fun _ _ _ _ _ _ us hl => match us, hl with | [_, _, _], _ => rfl
      (case a => k_is); (case l => k_is); (case c => k_is); (case k => k_is)
    have d_check_drawing : G.DefOk (PySem.Challenge.cw_planefacts_s01_answers_holds.heap_1 w.params) mg "check_drawing" 76 ["problem", "numbers", "rows"] := by
      refine' G.d_mk KX NS ?a ?l ?c ?k fun _ _ _ _ _ _ us hl => match us, hl with | [_, _, _], _ => rfl
      (case a => k_is); (case l => k_is); (case c => k_is); (case k => k_is)
    have d_holds_in_drawing : G.DefOk (PySem.Challenge.cw_planefacts_s01_answers_holds.heap_1 w.params) mg "holds_in_drawing" 77 ["problem", "numbers", "rows"] := by
      refine' G.d_mk KX NS ?a ?l ?c ?k fun _ _ _ _ _ _ us hl => match us, hl with | [_, _, _], _ => rfl
      (case a => k_is); (case l => k_is); (case c => k_is); (case k => k_is)
    have d_answer : G.DefOk (PySem.Challenge.cw_planefacts_s01_answers_holds.heap_1 w.params) mg "answer" 83 ["problem", "call", "numbers", "rows"] := by
      refine' G.d_mk KX NS ?a ?l ?c ?k fun _ _ _ _ _ _ us hl => match us, hl with | [_, _, _, _], _ => rfl
      (case a => k_is); (case l => k_is); (case c => k_is); (case k => k_is)
    have d_answers : G.DefOk (PySem.Challenge.cw_planefacts_s01_answers_holds.heap_1 w.params) mg "answers" 84 ["calls"] := by
      refine' G.d_mk KX NS ?a ?l ?c ?k fun _ _ _ _ _ _ us hl => match us, hl with | [_], _ => rfl
      (case a => k_is); (case l => k_is); (case c => k_is); (case k => k_is)
    obtain ⟨c_Theory, k_Theory, t_many, t_order, t_rounds, t_known, t_starts⟩ : ∃ C, G.ClsOk (PySem.Challenge.cw_planefacts_s01_answers_holds.heap_1 w.params) mg "Theory" "Theory.__init__" 36 ["self", "many"] C ∧ L2.NoAttr (PySem.Challenge.cw_planefacts_s01_answers_holds.heap_1 w.params) C "many" ∧ L2.NoAttr (PySem.Challenge.cw_planefacts_s01_answers_holds.heap_1 w.params) C "order" ∧ L2.NoAttr (PySem.Challenge.cw_planefacts_s01_answers_holds.heap_1 w.params) C "rounds" ∧ L2.NoAttr (PySem.Challenge.cw_planefacts_s01_answers_holds.heap_1 w.params) C "known" ∧ L2.NoAttr (PySem.Challenge.cw_planefacts_s01_answers_holds.heap_1 w.params) C "starts" := by
      refine' ⟨_, G.cls_mk KX NS ?a ?pg ?hd ?po ?sa ?mk ?kc ?a1 ?i1 ?l ?c fun _ _ _ _ _ _ us hl => match us, hl with | [_, _], _ => rfl, ?n0, ?n1, ?n2, ?n3, ?n4⟩
      (case a => k_is); (case pg => k_is); (case hd => k_is); (case po => k_is); (case sa => k_is); (case mk => k_is); (case kc => k_is); (case a1 => k_is); (case i1 => k_is); (case l => k_is); (case c => k_is); (case n0 => unfold L2.NoAttr; k_is); (case n1 => unfold L2.NoAttr; k_is); (case n2 => unfold L2.NoAttr; k_is); (case n3 => unfold L2.NoAttr; k_is); (case n4 => unfold L2.NoAttr; k_is)
    obtain ⟨c_Problem, k_Problem, p_many, p_hypotheses, p_theory⟩ : ∃ C, G.ClsOk (PySem.Challenge.cw_planefacts_s01_answers_holds.heap_1 w.params) mg "Problem" "Problem.__init__" 58 ["self", "many"] C ∧ L2.NoAttr (PySem.Challenge.cw_planefacts_s01_answers_holds.heap_1 w.params) C "many" ∧ L2.NoAttr (PySem.Challenge.cw_planefacts_s01_answers_holds.heap_1 w.params) C "hypotheses" ∧ L2.NoAttr (PySem.Challenge.cw_planefacts_s01_answers_holds.heap_1 w.params) C "theory" := by
      refine' ⟨_, G.cls_mk KX NS ?a ?pg ?hd ?po ?sa ?mk ?kc ?a1 ?i1 ?l ?c fun _ _ _ _ _ _ us hl => match us, hl with | [_, _], _ => rfl, ?n0, ?n1, ?n2⟩
      (case a => k_is); (case pg => k_is); (case hd => k_is); (case po => k_is); (case sa => k_is); (case mk => k_is); (case kc => k_is); (case a1 => k_is); (case i1 => k_is); (case l => k_is); (case c => k_is); (case n0 => unfold L2.NoAttr; k_is); (case n1 => unfold L2.NoAttr; k_is); (case n2 => unfold L2.NoAttr; k_is)
    obtain ⟨a_SIZES, g_SIZES, v_SIZES⟩ : ∃ a, G.GRef mg "SIZES" a ∧ G.KV (PySem.Challenge.cw_planefacts_s01_answers_holds.heap_1 w.params) (.ref a) (G.natD Kh375.pointCounts) := by
      refine' ⟨_, G.ref_mk KX NS ?aSIZES, ?vSIZES⟩
      (case aSIZES => k_is)
      repeat' (first | exact G.KVs.nil | exact G.KV.int | refine G.KVs.cons ?_ ?_ | (apply G.KV.tup; k_is))
    obtain ⟨a_NUMBERS, g_NUMBERS, v_NUMBERS⟩ : ∃ a, G.GRef mg "NUMBERS" a ∧ G.KV (PySem.Challenge.cw_planefacts_s01_answers_holds.heap_1 w.params) (.ref a) (G.natD [1, 1, 1, 0, 1, 0, 1, 0, 1, 1, 1, 1, 0, 0, 0, 1]) := by
      refine' ⟨_, G.ref_mk KX NS ?aNUMBERS, ?vNUMBERS⟩
      (case aNUMBERS => k_is)
      repeat' (first | exact G.KVs.nil | exact G.KV.int | refine G.KVs.cons ?_ ?_ | (apply G.KV.tup; k_is))
    obtain ⟨a_ROWS, g_ROWS, v_ROWS⟩ : ∃ a, G.GRef mg "ROWS" a ∧ G.KV (PySem.Challenge.cw_planefacts_s01_answers_holds.heap_1 w.params) (.ref a) (G.natD [0, 1, 0, 0, 0, 0, 0, 0, 1, 1, 1, 1, 1, 0, 1, 2]) := by
      refine' ⟨_, G.ref_mk KX NS ?aROWS, ?vROWS⟩
      (case aROWS => k_is)
      repeat' (first | exact G.KVs.nil | exact G.KV.int | refine G.KVs.cons ?_ ?_ | (apply G.KV.tup; k_is))
    obtain ⟨a_SIX_ORDERS, g_SIX_ORDERS, v_SIX_ORDERS⟩ : ∃ a, G.GRef mg "SIX_ORDERS" a ∧ G.KV (PySem.Challenge.cw_planefacts_s01_answers_holds.heap_1 w.params) (.ref a) (.t (Mi.sixOrders.map G.natD)) := by
      refine' ⟨_, G.ref_mk KX NS ?aSIX_ORDERS, ?vSIX_ORDERS⟩
      (case aSIX_ORDERS => k_is)
      repeat' (first | exact G.KVs.nil | exact G.KV.int | refine G.KVs.cons ?_ ?_ | (apply G.KV.tup; k_is))
    obtain ⟨a_PAIR_ORDERS, g_PAIR_ORDERS, v_PAIR_ORDERS⟩ : ∃ a, G.GRef mg "PAIR_ORDERS" a ∧ G.KV (PySem.Challenge.cw_planefacts_s01_answers_holds.heap_1 w.params) (.ref a) (.t (Mi.pairOrders.map G.natD)) := by
      refine' ⟨_, G.ref_mk KX NS ?aPAIR_ORDERS, ?vPAIR_ORDERS⟩
      (case aPAIR_ORDERS => k_is)
      repeat' (first | exact G.KVs.nil | exact G.KV.int | refine G.KVs.cons ?_ ?_ | (apply G.KV.tup; k_is))
    obtain ⟨a_RULES, g_RULES, v_RULES⟩ : ∃ a, G.GRef mg "RULES" a ∧ G.KV (PySem.Challenge.cw_planefacts_s01_answers_holds.heap_1 w.params) (.ref a) (.t (Kh375.rules.map G.ruleD)) := by
      refine' ⟨_, G.ref_mk KX NS ?aRULES, ?vRULES⟩
      (case aRULES => k_is)
      repeat' (first | exact G.KVs.nil | exact G.KV.int | refine G.KVs.cons ?_ ?_ | (apply G.KV.tup; k_is))
    obtain ⟨a_DEEDS, g_DEEDS, deeds⟩ : ∃ a, G.GRef mg "DEEDS" a ∧ G.DeedsAt (PySem.Challenge.cw_planefacts_s01_answers_holds.heap_1 w.params) mg a := by
      refine' ⟨_, G.ref_mk KX NS ?aDEEDS, G.deeds_mk (fs := [_, _, _, _, _, _, _, _, _, _, _, _, _, _, _]) ?lDEEDS ?sDEEDS ?pDEEDS⟩
      (case aDEEDS => k_is)
      (case lDEEDS => k_is)
      (case sDEEDS => exact rfl)
      (case pDEEDS => exact (.cons (PySem.W.mg_of KX NS (by k_is)) (.cons (PySem.W.mg_of KX NS (by k_is)) (.cons (PySem.W.mg_of KX NS (by k_is)) (.cons (PySem.W.mg_of KX NS (by k_is)) (.cons (PySem.W.mg_of KX NS (by k_is)) (.cons (PySem.W.mg_of KX NS (by k_is)) (.cons (PySem.W.mg_of KX NS (by k_is)) (.cons (PySem.W.mg_of KX NS (by k_is)) (.cons (PySem.W.mg_of KX NS (by k_is)) (.cons (PySem.W.mg_of KX NS (by k_is)) (.cons (PySem.W.mg_of KX NS (by k_is)) (.cons (PySem.W.mg_of KX NS (by k_is)) (.cons (PySem.W.mg_of KX NS (by k_is)) (.cons (PySem.W.mg_of KX NS (by k_is)) (.cons (PySem.W.mg_of KX NS (by k_is)) .nil))))))))))))))))
    have T : G.Txt (PySem.Challenge.cw_planefacts_s01_answers_holds.heap_1 w.params) mg ⟨a_SIZES, a_SIX_ORDERS, a_PAIR_ORDERS, a_RULES, a_DEEDS, a_NUMBERS, a_ROWS, c_Theory, c_Problem⟩ := { n_len := n_len, n_list := n_list, n_tuple := n_tuple, n_set := n_set, n_sorted := n_sorted, n_min := n_min, n_max := n_max, n_all := n_all, n_any := n_any, n_range := n_range, n_zip := n_zip, n_enumerate := n_enumerate, g_COLLINEAR := g_COLLINEAR, g_PARALLEL := g_PARALLEL, g_PERPENDICULAR := g_PERPENDICULAR, g_EQUAL := g_EQUAL, g_MIDPOINT := g_MIDPOINT, g_CONCYCLIC := g_CONCYCLIC, g_APART := g_APART, g_MOST_COORDINATE := g_MOST_COORDINATE, g_MOST_KIND := g_MOST_KIND, g_MOST_HYPOTHESES := g_MOST_HYPOTHESES, g_CREATE := g_CREATE, g_SIZES := g_SIZES, g_SIX_ORDERS := g_SIX_ORDERS, g_PAIR_ORDERS := g_PAIR_ORDERS, g_RULES := g_RULES, g_DEEDS := g_DEEDS, g_NUMBERS := g_NUMBERS, g_ROWS := g_ROWS, d_has_segments := d_has_segments, d_is_degenerate := d_is_degenerate, d_normal := d_normal, d_four_orders := d_four_orders, d_orders_of := d_orders_of, d_readings := d_readings, d_line_of := d_line_of, d_are_coordinates := d_are_coordinates, d_spots_of := d_spots_of, d_vector := d_vector, d_cross := d_cross, d_dot := d_dot, d_area := d_area, d_circle_number := d_circle_number, d_pair_holds := d_pair_holds, d_holds := d_holds, d_are_distinct := d_are_distinct, d_filled := d_filled, d_matched := d_matched, d_first_open := d_first_open, k_Theory := k_Theory, t_many := t_many, t_order := t_order, t_rounds := t_rounds, t_known := t_known, t_starts := t_starts, d_learn := d_learn, d_conclude := d_conclude, d_choices := d_choices, d_spread := d_spread, d_derived := d_derived, d_theory_of := d_theory_of, d_assignments := d_assignments, d_premises_of := d_premises_of, d_first_assignment := d_first_assignment, d_lesser := d_lesser, d_first_given := d_first_given, d_readings_before := d_readings_before, d_reason_of := d_reason_of, d_proof_of := d_proof_of, d_is_derived := d_is_derived, d_correct_count := d_correct_count, d_needed := d_needed, k_Problem := k_Problem, p_many := p_many, p_hypotheses := p_hypotheses, p_theory := p_theory, d_fact_of := d_fact_of, d_known_theory := d_known_theory, d_has_hypothesis := d_has_hypothesis, d_add_hypothesis := d_add_hypothesis, d_remove_hypothesis := d_remove_hypothesis, d_hypothesis_count := d_hypothesis_count, d_get_hypothesis := d_get_hypothesis, d_known_count := d_known_count, d_list_known := d_list_known, d_round_count := d_round_count, d_round_of := d_round_of, d_reason := d_reason, d_proof := d_proof, d_needed_hypotheses := d_needed_hypotheses, d_line_fact := d_line_fact, d_check_proof := d_check_proof, d_contradiction := d_contradiction, d_check_drawing := d_check_drawing, d_holds_in_drawing := d_holds_in_drawing, d_answer := d_answer, d_answers := d_answers, sizes := G.kv_row v_SIZES (by decide), six := G.kv_ord v_SIX_ORDERS (by decide) (by decide), pair := G.kv_ord v_PAIR_ORDERS (by decide) (by decide), rules := G.kv_rules v_RULES, deeds := deeds, numbers := G.kv_row v_NUMBERS (by decide), rows := G.kv_row v_ROWS (by decide) }
    have an : ∃ fd : FuncData, (∀ (s : Shared) (us : List Value), us.length = (["calls"] : List Str).length → BindsTo s fd ⟨us, []⟩ ((["calls"] : List Str).zip us)) ∧ C8.Def (PySem.Challenge.cw_planefacts_s01_answers_holds.heap_1 w.params) mg "answers" (G.topS 84) fa fd := by
      refine' G.ans_mk KX NS hmg ?aA ?lA ?cA ?kA
      (case aA => k_is); (case lA => k_is); (case cA => k_is); (case kA => k_is)
    obtain ⟨fd, hb, F⟩ := an
    exact ⟨fd, hb, fun base _ _ => G.ok_answers T F⟩
  case S =>
    intro K H xs a hO hwi hask hx
    cases hx with
    | cons h1 h2 =>
      cases h2
      cases h1 with
      | lst hs ha =>
        have e := L2.ints_dw a.1 _ ha
        subst e
        have q : ((Codec.inLen 0 12120 a.1 && a.1.all (Codec.inInt (-2147483648) 2147483647)) && true) = true := hwi
        rw [Bool.and_eq_true, Bool.and_eq_true] at q
        have hl := (Codec.inNat_iff.mp q.1.1).2
        exact ⟨_, a.1, rfl, hs, by omega, hask, fun H' p _ hp => .lst (L2.SqL.of hp) (L2.dw_ints _)⟩
